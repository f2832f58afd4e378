import PyProof.Rows.All
import Wide.All
import OpenK.AllK
import Wide.FinOn
import PySem.Challenge.RW_stillroom_k76_whole_differences
import HandS.ForMost
import HandS.Evl
import HandS.Deep
import HandS.Star
import HandS.TupAny
import HandS.TupMul
import HandS.More
import HandS.Conv
import HandS.SortInts
import HandS.IsInst
import HandS.Defaults
import HandS.Head0
import HandS.Head1
import HandS.Head2
import HandS.HeadEnd
import HandS.HeadHook1
import HandS.HeadHook2
import HandS.HeadHook3
import HandS.HeadHook4
import KE.KeyNested
import KE.KDictKeyed
import KE.KDictDisplayH
import HandS.TupLen
import HandS.Iter
import HandS.Zip
import KE.GoesMore
import KE.GoesZip
import KE.GoesEnum
import HandS.SetBool
import HandS.Strs
import KE.BitLaws
set_option Elab.async false
set_option linter.all false
set_option maxRecDepth 100000
set_option maxHeartbeats 2000000
/-! Data in a part of the heap that stands still; expressions that evaluate to data; statements over slots that hold data. -/
namespace Z
open PySem PySem.Spec PyProof.Rows L2 Evl

/-! ### data that stands still: lists are tracked ones; a script (read only) is told as a dict of ints -/
/-- a dict's object, told by its entries (hash, key's place, value) -/
def rawD (a : Addr) (ep : Nat) (l : List (Int × Addr × Value)) : HO := .ext fun h => ∃ o es, h.get? a = some o ∧ o.ExactDict ∧ o.data = .dict es ep ∧ es.toList = l.map fun x => ⟨x.1, .ref x.2.1, x.2.2⟩
/-- keys: tuples of bools, tuples of tuples of ints; values: True, tuples of ints -/
abbrev TK := List Bool ⊕ List (List Nat)
abbrev TV := Option (List Nat)
abbrev Ent := Int × TK × TV
def natsD (l : List Nat) : PyData := .tuple (l.map fun (n : Nat) => .int n)
def tkD : TK → PyData
  | .inl bs => .tuple (bs.map .bool)
  | .inr ls => .tuple (ls.map natsD)
def tvD : TV → PyData
  | none => .bool true
  | some l => natsD l
def entD (e : Ent) : PyData × PyData := (.tuple [.int e.1, tkD e.2.1], tvD e.2.2)
/-- a table (read only) -/
def tabD (en : List Ent) : PyData := .dict ((.none, .none) :: en.map entD)
def NatsOk (K : PySem.W.Frag) (G : Hp) (a : Addr) (l : List Nat) : Prop := SqT K G a (l.map fun (n : Nat) => V.int n)
def KeyOk (K : PySem.W.Frag) (G : Hp) (a : Addr) : TK → Prop
  | .inl bs => SqT K G a (bs.map V.bl)
  | .inr ls => ∃ as : List Addr, SqT K G a (as.map V.ref) ∧ Paired (NatsOk K G) as ls
def ValOk (K : PySem.W.Frag) (G : Hp) (u : Value) : TV → Prop
  | none => u = .bool true
  | some l => ∃ b, u = .ref b ∧ NatsOk K G b l
def EntOk (K : PySem.W.Frag) (G : Hp) (x : Int × Addr × Value) (e : Ent) : Prop := x.1 = e.1 ∧ KeyOk K G x.2.1 e.2.1 ∧ ValOk K G x.2.2 e.2.2
mutual
inductive Dt (K : PySem.W.Frag) (G : Hp) : V → PyData → Prop
  | non : Dt K G .non .none
  | bl (b : Bool) : Dt K G (.bl b) (.bool b)
  | int (i : Int) : Dt K G (.int i) (.int i)
  | str (x : Str) : Dt K G (.str x) (.str x)
  | lst {a : Addr} {xs : List V} {ds : List PyData} : G a = some (.lst xs) → DtAll K G xs ds → Dt K G (.ref a) (.list ds)
  | tup {a : Addr} {xs : List V} {ds : List PyData} : SqT K G a xs → DtAll K G xs ds → Dt K G (.ref a) (.tuple ds)
  | scr {a : Addr} {ns : List Int} : SqL K G a (ns.map V.int) → Dt K G (.ref a) (.dict (ns.map fun n => (.int n, .none)))
  | tab {a : Addr} {ep : Nat} {l : List (Int × Addr × Value)} {en : List Ent} : (a == sysModules) = false → G a = some (rawD a ep l) → Paired (EntOk K G) l en → Dt K G (.ref a) (tabD en)
inductive DtAll (K : PySem.W.Frag) (G : Hp) : List V → List PyData → Prop
  | nil : DtAll K G [] []
  | cons {v : V} {vs : List V} {d : PyData} {ds : List PyData} : Dt K G v d → DtAll K G vs ds → DtAll K G (v :: vs) (d :: ds)
end
section
variable {K : PySem.W.Frag} {G G' H H' : Hp}
theorem keyok_ex (e : Ex G G') {a : Addr} : ∀ {k : TK}, KeyOk K G a k → KeyOk K G' a k
  | .inl bs, h => ex_t e h
  | .inr ls, ⟨as, h1, h2⟩ => ⟨as, ex_t e h1, Paired.mapP h2 fun _ _ h => ex_t e h⟩
theorem valok_ex (e : Ex G G') {u : Value} : ∀ {k : TV}, ValOk K G u k → ValOk K G' u k
  | none, h => h
  | some l, ⟨b, h1, h2⟩ => ⟨b, h1, ex_t e h2⟩
theorem ent_ex (e : Ex G G') {x : Int × Addr × Value} {en : Ent} (h : EntOk K G x en) : EntOk K G' x en := ⟨h.1, keyok_ex e h.2.1, valok_ex e h.2.2⟩
mutual
theorem dp_ex (e : Ex G G') : ∀ (d : PyData) (v : V), Dt K G v d → Dt K G' v d
  | .none, _, h => by cases h; exact .non
  | .bool b, _, h => by cases h; exact .bl b
  | .int i, _, h => by cases h; exact .int i
  | .str x, _, h => by cases h; exact .str x
  | .list ds, _, h => by
    cases h with
    | lst hs ha => exact .lst (e _ _ hs) (dp_exs e ds _ ha)
  | .tuple ds, _, h => by
    cases h with
    | tup hs ha => exact .tup (ex_t e hs) (dp_exs e ds _ ha)
  | .dict kvs, _, h => by
    generalize hk : PyData.dict kvs = d at h
    cases h with
    | scr hs => exact .scr (ex_l e hs)
    | tab h1 h2 h3 => exact .tab h1 (e _ _ h2) (Paired.mapP h3 fun _ _ => ent_ex e)
    | _ => cases hk
theorem dp_exs (e : Ex G G') : ∀ (ds : List PyData) (vs : List V), DtAll K G vs ds → DtAll K G' vs ds
  | [], _, h => by cases h; exact .nil
  | d :: ds, _, h => by
    cases h with
    | cons h1 h2 => exact .cons (dp_ex e d _ h1) (dp_exs e ds _ h2)
end
/-! no list, no script within -/
mutual
def still : PyData → Bool
  | .none | .bool _ | .int _ | .str _ => true
  | .tuple ds => stills ds
  | .list _ | .dict _ => false
def stills : List PyData → Bool
  | [] => true
  | d :: ds => still d && stills ds
end
/-! no script within -/
mutual
def noscr : PyData → Bool
  | .none | .bool _ | .int _ | .str _ => true
  | .tuple ds | .list ds => noscrs ds
  | .dict _ => false
def noscrs : List PyData → Bool
  | [] => true
  | d :: ds => noscr d && noscrs ds
end
mutual
theorem dt_dp : ∀ (d : PyData) (v : V), noscr d = true → Dt K G v d → Dp K G v d
  | .none, _, _, h => by cases h; exact .non
  | .bool b, _, _, h => by cases h; exact .bl b
  | .int i, _, _, h => by cases h; exact .int i
  | .str x, _, _, h => by cases h; exact .str x
  | .list ds, _, n, h => by
    cases h with
    | lst hs ha => exact .lst (sq_of hs) (dt_dps ds _ (by simpa [noscr] using n) ha)
  | .tuple ds, _, n, h => by
    cases h with
    | tup hs ha => exact .tup hs (dt_dps ds _ (by simpa [noscr] using n) ha)
  | .dict kvs, _, n, _ => by simp [noscr] at n
theorem dt_dps : ∀ (ds : List PyData) (vs : List V), noscrs ds = true → DtAll K G vs ds → DpAll K G vs ds
  | [], _, _, h => by cases h; exact .nil
  | d :: ds, _, n, h => by
    cases h with
    | cons h1 h2 =>
      simp only [noscrs, Bool.and_eq_true] at n
      exact .cons (dt_dp d _ n.1 h1) (dt_dps ds _ n.2 h2)
end
def hide (G : Hp) (l : Addr) : Hp := fun a => if a = l then none else G a
mutual
theorem dt_hide {l : Addr} {xs : List V} (hl : G l = some (.lst xs)) : ∀ (d : PyData) (v : V), still d = true → Dt K G v d → Dt K (hide G l) v d
  | .none, _, _, h => by cases h; exact .non
  | .bool b, _, _, h => by cases h; exact .bl b
  | .int i, _, _, h => by cases h; exact .int i
  | .str x, _, _, h => by cases h; exact .str x
  | .list ds, _, n, h => by simp [still] at n
  | .tuple ds, _, n, h => by
    cases h with
    | tup hs ha =>
      refine .tup ?_ (dt_hides hl ds _ (by simpa [still] using n) ha)
      rcases hs with (hs | ⟨o, hs⟩) | hs
      · refine .inl (.inl ?_)
        unfold hide
        rw [if_neg]
        · exact hs
        · intro e
          rw [e, hl] at hs
          cases hs
      · refine .inl (.inr ⟨o, ?_⟩)
        unfold hide
        rw [if_neg]
        · exact hs
        · intro e
          rw [e, hl] at hs
          cases hs
      · exact .inr hs
  | .dict kvs, _, n, _ => by simp [still] at n
theorem dt_hides {l : Addr} {xs : List V} (hl : G l = some (.lst xs)) : ∀ (ds : List PyData) (vs : List V), stills ds = true → DtAll K G vs ds → DtAll K (hide G l) vs ds
  | [], _, _, h => by cases h; exact .nil
  | d :: ds, _, n, h => by
    cases h with
    | cons h1 h2 =>
      simp only [stills, Bool.and_eq_true] at n
      exact .cons (dt_hide hl d _ n.1 h1) (dt_hides hl ds _ n.2 h2)
end
theorem dpa_len : ∀ {vs : List V} {ds : List PyData}, DtAll K G vs ds → vs.length = ds.length
  | _, _, .nil => rfl
  | _, _, .cons _ h => by simp [dpa_len h]
theorem dpa_app : ∀ {vs ws : List V} {ds es : List PyData}, DtAll K G vs ds → DtAll K G ws es → DtAll K G (vs ++ ws) (ds ++ es)
  | _, _, _, _, .nil, h => h
  | _, _, _, _, .cons a b, h => .cons a (dpa_app b h)
theorem dpa_get : ∀ {vs : List V} {ds : List PyData} {i : Nat} {d : PyData}, DtAll K G vs ds → ds[i]? = some d → ∃ v, vs[i]? = some v ∧ Dt K G v d
  | _, _, i, d, .nil, h => by simp at h
  | _, _, 0, d, .cons a b, h => by
    simp at h
    subst h
    exact ⟨_, rfl, a⟩
  | _, _, i + 1, d, .cons a b, h => by
    obtain ⟨v, h1, h2⟩ := dpa_get (i := i) (d := d) b (by simpa using h)
    exact ⟨v, by simpa using h1, h2⟩
theorem dpa_getV : ∀ {vs : List V} {ds : List PyData} {i : Nat} {v : V}, DtAll K G vs ds → vs[i]? = some v → ∃ d, ds[i]? = some d ∧ Dt K G v d
  | _, _, i, d, .nil, h => by simp at h
  | _, _, 0, d, .cons a b, h => by
    simp at h
    subst h
    exact ⟨_, rfl, a⟩
  | _, _, i + 1, d, .cons a b, h => by
    obtain ⟨v, h1, h2⟩ := dpa_getV (i := i) (v := d) b (by simpa using h)
    exact ⟨v, by simpa using h1, h2⟩
theorem dpa_set : ∀ {vs : List V} {ds : List PyData} {i : Nat} {v : V} {d : PyData}, DtAll K G vs ds → Dt K G v d → DtAll K G (vs.set i v) (ds.set i d)
  | _, _, _, _, _, .nil, _ => .nil
  | _, _, 0, _, _, .cons a b, h => .cons h b
  | _, _, i + 1, _, _, .cons a b, h => .cons a (dpa_set b h)
theorem dpa_take : ∀ {vs : List V} {ds : List PyData} (n : Nat), DtAll K G vs ds → DtAll K G (vs.take n) (ds.take n)
  | _, _, 0, _ => .nil
  | _, _, _ + 1, .nil => .nil
  | _, _, n + 1, .cons a b => .cons a (dpa_take n b)
theorem dpa_drop : ∀ {vs : List V} {ds : List PyData} (n : Nat), DtAll K G vs ds → DtAll K G (vs.drop n) (ds.drop n)
  | _, _, 0, h => h
  | _, _, _ + 1, .nil => .nil
  | _, _, n + 1, .cons a b => dpa_drop n b
theorem dpa_rep {v : V} {d : PyData} (h : Dt K G v d) : ∀ n : Nat, DtAll K G (List.replicate n v) (List.replicate n d)
  | 0 => .nil
  | n + 1 => .cons h (dpa_rep h n)
end

/-! ### growth: G stands still within H, G' within H'; what is new in G' was not in H -/
structure Gr (G H G' H' : Hp) : Prop where
  gg : Ex G G'
  gh : Ex G' H'
  hh : Ex H H'
  fr : ∀ a o, H a = some o → G a = none → G' a = none
theorem Gr.refl {G H : Hp} (e : Ex G H) : Gr G H G H := ⟨Ex.refl _, e, Ex.refl _, fun _ _ _ h => h⟩
theorem Gr.trans {G H G1 H1 G2 H2 : Hp} (a : Gr G H G1 H1) (b : Gr G1 H1 G2 H2) : Gr G H G2 H2 :=
  ⟨a.gg.trans b.gg, b.gh, a.hh.trans b.hh, fun x o h g => b.fr x o (a.hh x o h) (a.fr x o h g)⟩
/-- the heap grew, nothing new that is known -/
theorem Gr.more {G H H' : Hp} (e : Ex G H) (h : Ex H H') : Gr G H G H' := ⟨Ex.refl _, e.trans h, h, fun _ _ _ g => g⟩
/-- a new object, known from now on -/
theorem Gr.new {G H : Hp} {p : Addr} {o : HO} (e : Ex G H) (h : H p = none) : Gr G H (upd G p o) (upd H p o) := by
  have hg : G p = none := fresh_back e h
  refine ⟨Ex.new hg, fun a u ha => ?_, Ex.new h, fun a u ha ga => ?_⟩
  · by_cases q : a = p
    · subst q
      rw [upd_same] at ha ⊢
      exact ha
    · rw [upd_ne q] at ha ⊢
      exact e a u ha
  · rw [upd_ne (ne_of_none ha h)]
    exact ga

/-! ### slots -/
/-- an object of the def's own, that it may change: what is true of it, over what stands still -/
structure Ob where
  φ : Hp → Addr → HO → Prop
  mono : ∀ G G' l o, Ex G G' → φ G l o → φ G' l o
inductive Sl where
  | un
  | dat (d : PyData)
  | ob (o : Ob)
def SlOk (K : PySem.W.Frag) (H0 G H : Hp) (x : Option (Option V)) : Sl → Prop
  | .un => True
  | .dat d => ∃ v, x = some (some v) ∧ Dt K G v d
  | .ob o => ∃ l u, x = some (some (.ref l)) ∧ H0 l = none ∧ G l = none ∧ H l = some u ∧ o.φ G l u
def apart (x y : Option (Option V)) : Prop := ∀ l, x = some (some (.ref l)) → y = some (some (.ref l)) → False
structure At (K : PySem.W.Frag) (G0 H0 : Hp) (Γ : List Sl) (σ : L2.St) (G H : Hp) : Prop where
  gr : Gr G0 H0 G H
  len : σ.length = Γ.length
  sl : ∀ (i : Nat) (s : Sl), Γ[i]? = some s → SlOk K H0 G H (σ[i]?) s
  ap : ∀ (i j : Nat) (o o' : Ob), i ≠ j → Γ[i]? = some (.ob o) → Γ[j]? = some (.ob o') → apart (σ[i]?) (σ[j]?)
section
variable {K : PySem.W.Frag} {G0 H0 G H G' H' : Hp} {Γ Γ' : List Sl} {σ : L2.St}
theorem SlOk.grow (g : Gr G H G' H') {x : Option (Option V)} : ∀ {s : Sl}, SlOk K H0 G H x s → SlOk K H0 G' H' x s
  | .un, _ => trivial
  | .dat d, ⟨v, e, h⟩ => ⟨v, e, dp_ex g.gg d v h⟩
  | .ob o, ⟨l, u, e, h0, hg, hh, p⟩ => ⟨l, u, e, h0, g.fr l u hh hg, g.hh l u hh, o.mono _ _ _ _ g.gg p⟩
theorem At.grow (a : At K G0 H0 Γ σ G H) (g : Gr G H G' H') : At K G0 H0 Γ σ G' H' :=
  ⟨a.gr.trans g, a.len, fun i s h => (a.sl i s h).grow g, a.ap⟩
/-- from here on -/
theorem At.rebase (a : At K G0 H0 Γ σ G H) : At K G H0 Γ σ G H :=
  ⟨⟨Ex.refl _, a.gr.gh, a.gr.hh, fun _ _ _ h => h⟩, a.len, a.sl, a.ap⟩
theorem gr_unbase {G1 H1 : Hp} (a : Gr G0 H0 G H) (b : Gr G H0 G1 H1) : Gr G0 H0 G1 H1 :=
  ⟨a.gg.trans b.gg, b.gh, b.hh, fun x o h g => b.fr x o h (a.fr x o h g)⟩
theorem At.unbase {G1 H1 : Hp} (g : Gr G0 H0 G H) (a : At K G H0 Γ σ G1 H1) : At K G0 H0 Γ σ G1 H1 :=
  ⟨gr_unbase g a.gr, a.len, a.sl, a.ap⟩
/-- a slot gets data -/
theorem At.set (a : At K G0 H0 Γ σ G H) {i : Nat} {v : V} {d : PyData} (h : Dt K G v d) : At K G0 H0 (Γ.set i (.dat d)) (σ.set i (some v)) G H := by
  refine ⟨a.gr, by simp [a.len], fun j s hj => ?_, fun j k o o' ne hj hk => ?_⟩
  · by_cases e : i = j
    · subst e
      have hi : i < Γ.length := by
        have := (List.getElem?_eq_some_iff.mp hj).1
        simpa using this
      rw [List.getElem?_set_self hi] at hj
      cases hj
      exact ⟨v, by rw [List.getElem?_set_self (by rw [a.len]; exact hi)], h⟩
    · rw [List.getElem?_set_ne e] at hj
      rw [List.getElem?_set_ne e]
      exact a.sl j s hj
  · have f : ∀ {m : Nat} {u : Ob}, (Γ.set i (.dat d))[m]? = some (.ob u) → i ≠ m ∧ Γ[m]? = some (.ob u) := fun {m u} q => by
      by_cases e : i = m
      · subst e
        have hi : i < Γ.length := by
          have := (List.getElem?_eq_some_iff.mp q).1
          simpa using this
        rw [List.getElem?_set_self hi] at q
        cases q
      · rw [List.getElem?_set_ne e] at q
        exact ⟨e, q⟩
    obtain ⟨e1, q1⟩ := f hj
    obtain ⟨e2, q2⟩ := f hk
    rw [List.getElem?_set_ne e1, List.getElem?_set_ne e2]
    exact a.ap j k o o' ne q1 q2
/-- a slot is forgotten -/
theorem At.forget (a : At K G0 H0 Γ σ G H) {i : Nat} {x : Option V} : At K G0 H0 (Γ.set i .un) (σ.set i x) G H := by
  refine ⟨a.gr, by simp [a.len], fun j s hj => ?_, fun j k o o' ne hj hk => ?_⟩
  · by_cases e : i = j
    · subst e
      have hi : i < Γ.length := by
        have := (List.getElem?_eq_some_iff.mp hj).1
        simpa using this
      rw [List.getElem?_set_self hi] at hj
      cases hj
      trivial
    · rw [List.getElem?_set_ne e] at hj
      rw [List.getElem?_set_ne e]
      exact a.sl j s hj
  · have f : ∀ {m : Nat} {u : Ob}, (Γ.set i .un)[m]? = some (.ob u) → i ≠ m ∧ Γ[m]? = some (.ob u) := fun {m u} q => by
      by_cases e : i = m
      · subst e
        have hi : i < Γ.length := by
          have := (List.getElem?_eq_some_iff.mp q).1
          simpa using this
        rw [List.getElem?_set_self hi] at q
        cases q
      · rw [List.getElem?_set_ne e] at q
        exact ⟨e, q⟩
    obtain ⟨e1, q1⟩ := f hj
    obtain ⟨e2, q2⟩ := f hk
    rw [List.getElem?_set_ne e1, List.getElem?_set_ne e2]
    exact a.ap j k o o' ne q1 q2
end
end Z
set_option Elab.async false
set_option linter.all false
set_option maxRecDepth 100000
set_option maxHeartbeats 2000000
/-! The judgements: an expression, a test, arguments, a statement, over slots that hold data. -/
namespace Z
open PySem PySem.Spec PyProof.Rows L2 Evl

/-! ### each piece's own reading -/
def teS (X : Cx) (e : Expr) : TE := fun σ H Q => ∀ pins s, Inv X pins σ H s → wpAny (model X.prog X.w) X.A (eval e X.env) (EP X pins σ Q) X.xe s
def ttS (X : Cx) (e : Expr) : TT := fun σ H Q => ∀ pins s, Inv X pins σ H s → wpAny (model X.prog X.w) X.A (isTrue e X.env (eval e X.env)) (TP X pins σ Q) X.xe s
def twS (X : Cx) (e : Expr) : TT := fun σ H Q => ∀ whole pins s, Inv X pins σ H s → wpAny (model X.prog X.w) X.A (isTrue e X.env whole) (TP X pins σ Q) X.xe s
def taS (X : Cx) (es : List Expr) : TA := fun σ H Q => ∀ pos pins s, Inv X pins σ H s → wpAny (model X.prog X.w) X.A (spliced (backTo pos (starEach es X.env))) (AP X pins σ Q) X.xe s
def tsS (X : Cx) (st : Stmt) : TS := fun D σ H => ∀ pins s, Inv X pins σ H s → wpAny (model X.prog X.w) X.A (exec st X.env) (SP X pins D) X.xe s
def tssS (X : Cx) (st : List Stmt) : TS := fun D σ H => ∀ pins s, Inv X pins σ H s → wpAny (model X.prog X.w) X.A (execs st X.env) (SP X pins D) X.xe s
theorem peS {X : Cx} {e : Expr} : PE X e (teS X e) := ⟨fun pins s _ _ _ I h => h pins s I⟩
theorem ptS {X : Cx} {e : Expr} : PT X e (ttS X e) := ⟨fun pins s _ _ _ I h => h pins s I⟩
theorem pwS {X : Cx} {e : Expr} : PW X e (twS X e) := ⟨fun wh pins s _ _ _ I h => h wh pins s I⟩
theorem paS {X : Cx} {es : List Expr} : PA X es (taS X es) := ⟨fun pos pins s _ _ _ I h => h pos pins s I⟩
theorem psS {X : Cx} {st : Stmt} : PS X st (tsS X st) := ⟨fun pins s _ _ _ I h => h pins s I⟩
theorem pssS {X : Cx} {st : List Stmt} : PSs X st (tssS X st) := ⟨fun pins s _ _ _ I h => h pins s I⟩

/-! ### evaluates to data -/
section
variable (K : PySem.W.Frag)
def EvD (te : TE) (Γ : List Sl) (d : PyData) : Prop := ∀ G0 H0 σ G H, At K G0 H0 Γ σ G H → ∀ Q : VK, (∀ v G' H', Gr G H G' H' → Dt K G' v d → Q v H') → te σ H Q
def EvB (tt : TT) (Γ : List Sl) (b : Bool) : Prop := ∀ G0 H0 σ G H, At K G0 H0 Γ σ G H → ∀ Q : Bool → Hp → Prop, (∀ G' H', Gr G H G' H' → Q b H') → tt σ H Q
def EvS (ta : TA) (Γ : List Sl) (ds : List PyData) : Prop := ∀ G0 H0 σ G H, At K G0 H0 Γ σ G H → ∀ Q : List V → Hp → Prop, (∀ vs G' H', Gr G H G' H' → DtAll K G' vs ds → Q vs H') → ta σ H Q
/-- an operation on data: two places, one, a call -/
def OD (r : R2) (x y z : PyData) : Prop := ∀ G H v u, Ex G H → Dt K G v x → Dt K G u y → ∀ Q : VK, (∀ v' G' H', Gr G H G' H' → Dt K G' v' z → Q v' H') → r v u H Q
def UD (r : V → Hp → VK → Prop) (x z : PyData) : Prop := ∀ G H v, Ex G H → Dt K G v x → ∀ Q : VK, (∀ v' G' H', Gr G H G' H' → Dt K G' v' z → Q v' H') → r v H Q
def CD (r : List V → Hp → VK → Prop) (xs : List PyData) (z : PyData) : Prop := ∀ G H vs, Ex G H → DtAll K G vs xs → ∀ Q : VK, (∀ v' G' H', Gr G H G' H' → Dt K G' v' z → Q v' H') → r vs H Q
end
def E (X : Cx) (Γ : List Sl) (e : Expr) (d : PyData) : Prop := EvD X.K (teS X e) Γ d
def T (X : Cx) (Γ : List Sl) (e : Expr) (b : Bool) : Prop := EvB X.K (ttS X e) Γ b
def TW (X : Cx) (Γ : List Sl) (e : Expr) (b : Bool) : Prop := EvB X.K (twS X e) Γ b
def As (X : Cx) (Γ : List Sl) (es : List Expr) (ds : List PyData) : Prop := EvS X.K (taS X es) Γ ds
section
variable {X : Cx} {Γ : List Sl} {e a b : Expr} {es : List Expr} {d x y z : PyData} {ds : List PyData} {te ta tb : TE} {tt : TT} {pos : Pos} {K : PySem.W.Frag}
theorem e_of (h : PE X e te) (k : EvD X.K te Γ d) : E X Γ e d := fun G0 H0 σ G H hA Q hQ pins s I => h.run pins s σ H Q I (k G0 H0 σ G H hA Q hQ)
theorem t_of {v : Bool} (h : PT X e tt) (k : EvB X.K tt Γ v) : T X Γ e v := fun G0 H0 σ G H hA Q hQ pins s I => h.run pins s σ H Q I (k G0 H0 σ G H hA Q hQ)
theorem tw_of {v : Bool} (h : PW X e tt) (k : EvB X.K tt Γ v) : TW X Γ e v := fun G0 H0 σ G H hA Q hQ wh pins s I => h.run wh pins s σ H Q I (k G0 H0 σ G H hA Q hQ)
theorem as_of {t : TA} (h : PA X es t) (k : EvS X.K t Γ ds) : As X Γ es ds := fun G0 H0 σ G H hA Q hQ pos pins s I => h.run pos pins s σ H Q I (k G0 H0 σ G H hA Q hQ)
theorem tw_t {v : Bool} (h : TW X Γ e v) : T X Γ e v := t_of pwS.pt h
/-! #### the base -/
theorem evd_op {r : R2} (ha : EvD K ta Γ x) (hb : EvD K tb Γ y) (hr : OD K r x y z) : EvD K (tOp r ta tb) Γ z := fun G0 H0 σ G H hA Q hQ =>
  ha G0 H0 σ G H hA _ fun v G1 H1 g1 d1 => hb G0 H0 σ G1 H1 (hA.grow g1) _ fun u G2 H2 g2 d2 =>
    hr G2 H2 v u g2.gh (dp_ex g2.gg _ _ d1) d2 Q fun v' G3 H3 g3 d3 => hQ v' G3 H3 ((g1.trans g2).trans g3) d3
theorem evd_un {r : V → Hp → VK → Prop} (ha : EvD K ta Γ x) (hr : UD K r x z) : EvD K (tUn r ta) Γ z := fun G0 H0 σ G H hA Q hQ =>
  ha G0 H0 σ G H hA _ fun v G1 H1 g1 d1 => hr G1 H1 v g1.gh d1 Q fun v' G3 H3 g3 d3 => hQ v' G3 H3 (g1.trans g3) d3
theorem evs_nil : EvS K tNil Γ [] := fun G0 H0 σ G H hA Q hQ => hQ [] G H (Gr.refl hA.gr.gh) .nil
theorem evs_cons {t : TA} (ha : EvD K ta Γ x) (hr : EvS K t Γ ds) : EvS K (tCons ta t) Γ (x :: ds) := fun G0 H0 σ G H hA Q hQ =>
  ha G0 H0 σ G H hA _ fun v G1 H1 g1 d1 => hr G0 H0 σ G1 H1 (hA.grow g1) _ fun vs G2 H2 g2 d2 => hQ _ G2 H2 (g1.trans g2) (.cons (dp_ex g2.gg _ _ d1) d2)
theorem evd_call {r : List V → Hp → VK → Prop} {t : TA} (h : EvS K t Γ ds) (hr : CD K r ds z) : EvD K (tCB r t) Γ z := fun G0 H0 σ G H hA Q hQ =>
  h G0 H0 σ G H hA _ fun vs G1 H1 g1 d1 => hr G1 H1 vs g1.gh d1 Q fun v' G3 H3 g3 d3 => hQ v' G3 H3 (g1.trans g3) d3
theorem evb_test {v : Bool} (h : EvD K te Γ (.bool v)) : EvB K (tB te) Γ v := fun G0 H0 σ G H hA Q hQ =>
  h G0 H0 σ G H hA _ fun x G1 H1 g1 d1 => by
    cases d1
    exact ⟨v, rfl, hQ G1 H1 g1⟩
theorem evd_lst {t : TA} (h : EvS K t Γ ds) (hl : ds.length ≤ 100000) : EvD K (tLst t) Γ (.list ds) := fun G0 H0 σ G H hA Q hQ =>
  h G0 H0 σ G H hA _ fun vs G1 H1 g1 d1 => ⟨sz_of (by rw [dpa_len d1]; exact hl), fun p hp => hQ _ _ _ (g1.trans (Gr.new (o := .lst vs) g1.gh hp)) (.lst upd_same (dp_exs (Gr.new (o := .lst vs) g1.gh hp).gg _ _ d1))⟩
theorem evd_tup {t : TA} (h : EvS K t Γ ds) (hl : ds.length ≤ 100000) : EvD K (tTup t) Γ (.tuple ds) := fun G0 H0 σ G H hA Q hQ =>
  h G0 H0 σ G H hA _ fun vs G1 H1 g1 d1 => ⟨sz_of (by rw [dpa_len d1]; exact hl), fun p hp => hQ _ _ _ (g1.trans (Gr.new (o := .tup vs) g1.gh hp)) (.tup (st_of upd_same) (dp_exs (Gr.new (o := .tup vs) g1.gh hp).gg _ _ d1))⟩
theorem evd_val {v : V} (h : ∀ G, Dt K G v d) : EvD K (tC v) Γ d := fun G0 H0 σ G H hA Q hQ => hQ v G H (Gr.refl hA.gr.gh) (h G)
theorem evd_var {i : Nat} (h : Γ[i]? = some (.dat d)) : EvD K (tVar i) Γ d := fun G0 H0 σ G H hA Q hQ => by
  obtain ⟨v, e, hd⟩ := hA.sl i _ h
  exact ⟨v, e, hQ v G H (Gr.refl hA.gr.gh) hd⟩
/-- a list of one's own is read; what comes out holds no list -/
theorem evd_borrow {i : Nat} {es : List PyData} {o : Ob} (hi : Γ[i]? = some (.ob o)) (ho : ∀ G l u, o.φ G l u → ∃ vs, u = .lst vs ∧ DtAll K G vs es) (h : EvD K te (Γ.set i (.dat (.list es))) d) (st : still d = true) : EvD K te Γ d := fun G0 H0 σ G H hA Q hQ => by
  obtain ⟨l, u, e, h0, hg, hh, p⟩ := hA.sl i _ hi
  obtain ⟨vs, rfl, hd⟩ := ho _ _ _ p
  have ex : Ex G (upd G l (.lst vs)) := Ex.new hg
  have gr1 : Gr G0 H0 (upd G l (.lst vs)) H := ⟨hA.gr.gg.trans ex, fun a u ha => by
    by_cases q : a = l
    · subst q
      rw [upd_same] at ha
      cases ha
      exact hh
    · rw [upd_ne q] at ha
      exact hA.gr.gh a u ha, hA.gr.hh, fun a u ha ga => by
    rw [upd_ne (ne_of_none ha h0)]
    exact hA.gr.fr a u ha ga⟩
  have a1 : At K G0 H0 Γ σ (upd G l (.lst vs)) H → At K G0 H0 (Γ.set i (.dat (.list es))) (σ.set i (some (.ref l))) (upd G l (.lst vs)) H := fun a => a.set (.lst upd_same (dp_exs ex _ _ hd))
  have es2 : σ.set i (some (.ref l)) = σ := by
    apply List.ext_getElem?
    intro j
    by_cases q : i = j
    · subst q
      rw [e, List.getElem?_set_self (List.getElem?_eq_some_iff.mp e).1]
    · rw [List.getElem?_set_ne q]
  have hA1 : At K G0 H0 (Γ.set i (.dat (.list es))) σ (upd G l (.lst vs)) H := by
    refine ⟨gr1, by simp [hA.len], fun j s hj => ?_, fun j k o1 o2 ne hj hk => ?_⟩
    · by_cases q : i = j
      · subst q
        have hlt : i < Γ.length := by
          have := (List.getElem?_eq_some_iff.mp hj).1
          simpa using this
        rw [List.getElem?_set_self hlt] at hj
        cases hj
        exact ⟨_, e, .lst upd_same (dp_exs ex _ _ hd)⟩
      · rw [List.getElem?_set_ne q] at hj
        have z := hA.sl j s hj
        cases s with
        | un => trivial
        | dat d' =>
          obtain ⟨v, e1, h1⟩ := z
          exact ⟨v, e1, dp_ex ex _ _ h1⟩
        | ob o1 =>
          obtain ⟨l1, u1, e1, h01, hg1, hh1, p1⟩ := z
          have nl : l1 ≠ l := fun z => hA.ap i j _ _ q hi hj l e (by rw [e1, z])
          exact ⟨l1, u1, e1, h01, by rw [upd_ne nl]; exact hg1, hh1, o1.mono _ _ _ _ ex p1⟩
    · have f : ∀ {m : Nat} {u : Ob}, (Γ.set i (.dat (.list es)))[m]? = some (.ob u) → i ≠ m ∧ Γ[m]? = some (.ob u) := fun {m u} q => by
        by_cases e : i = m
        · subst e
          have hi : i < Γ.length := by
            have := (List.getElem?_eq_some_iff.mp q).1
            simpa using this
          rw [List.getElem?_set_self hi] at q
          cases q
        · rw [List.getElem?_set_ne e] at q
          exact ⟨e, q⟩
      exact hA.ap j k o1 o2 ne (f hj).2 (f hk).2
  refine h G0 H0 σ _ H hA1 Q fun v G' H' g d1 => ?_
  have hl' : G' l = some (.lst vs) := g.gg _ _ upd_same
  refine hQ v (hide G' l) H' ⟨fun a u ha => ?_, fun a u ha => ?_, g.hh, fun a u ha ga => ?_⟩ (dt_hide hl' _ _ st d1)
  · unfold hide
    rw [if_neg (ne_of_none ha hg)]
    exact g.gg a u (ex a u ha)
  · unfold hide at ha
    by_cases q : a = l
    · rw [if_pos q] at ha
      cases ha
    · rw [if_neg q] at ha
      exact g.gh a u ha
  · unfold hide
    by_cases q : a = l
    · rw [if_pos q]
    · rw [if_neg q]
      exact g.fr a u ha (by rw [upd_ne q]; exact ga)
end
end Z
set_option Elab.async false
set_option linter.all false
set_option maxRecDepth 100000
set_option maxHeartbeats 2000000
/-! Expressions. -/
namespace Z
open PySem PySem.Spec PyProof.Rows L2 Evl

/-! ### what is known of a context -/
structure XF (X : Cx) (P : Program) (w : World) (K : PySem.W.Frag) (mg : Str → Option Value) (base : Heap) (N : List Str) (sc : Scope) (k : Nat) : Prop where
  hP : X.prog = P
  hw : X.w = w
  hK : X.K = K
  hmg : X.mg = mg
  hbase : X.base = base
  hN : X.N = N
  hsc : X.env.scope = sc
  calm : X.calm = true
  room : Room k X.A
  xe : X.xe = fun _ _ => False
  nd : N.Nodup
/-- the built-in names are not hidden -/
structure BN (mg : Str → Option Value) : Prop where
  len : mg "len" = none
  int : mg "int" = none
  abs : mg "abs" = none
  tuple : mg "tuple" = none
  list : mg "list" = none
  sorted : mg "sorted" = none
  all : mg "all" = none
  min : mg "min" = none
  max : mg "max" = none
  isi : mg "isinstance" = none
  range : mg "range" = none
  enum : mg "enumerate" = none
  zip : mg "zip" = none
  bool : mg "bool" = none
  str : mg "str" = none
def visB (sc : Scope) (x : Str) : Bool := match sc.names.lookup x with
  | some .local => true
  | some .cell => true
  | some .free => true
  | _ => false
def glB (sc : Scope) (x : Str) : Bool := match sc.names.lookup x with
  | some .globalImplicit => true
  | _ => false
theorem vis_of {sc : Scope} {x : Str} (h : visB sc x = true) : Vis sc x := by
  unfold visB at h
  split at h
  · exact .inl (by assumption)
  · exact .inr (.inl (by assumption))
  · exact .inr (.inr (by assumption))
  · cases h
theorem gl_of {sc : Scope} {x : Str} (h : glB sc x = true) : sc.names.lookup x = some .globalImplicit := by
  unfold glB at h
  split at h
  · assumption
  · cases h
section
variable {X : Cx} {P : Program} {w : World} {K : PySem.W.Frag} {mg : Str → Option Value} {base : Heap} {N : List Str} {sc : Scope} {k : Nat}
theorem XF.gl (F : XF X P w K mg base N sc k) {x : Str} (h : glB sc x = true) : Gl X x := by
  show X.env.scope.names.lookup x = _
  rw [F.hsc]
  exact gl_of h
theorem XF.hu (F : XF X P w K mg base N sc k) : X.A.units + 66 < cLine := by have := F.room.un; omega
theorem XF.none (F : XF X P w K mg base N sc k) {x : Str} (h : mg x = none) : X.mg x = none := by rw [F.hmg]; exact h
variable {Γ : List Sl} {e a b c : Expr} {es : List Expr} {d x y z : PyData} {ds : List PyData} {pos p : Pos}

/-! ### names, constants -/
theorem e_name (F : XF X P w K mg base N sc k) (i : Nat) {x : Str} {pos : Pos} (hN : N[i]? = some x) (hv : visB sc x = true) (h : Γ[i]? = some (.dat d)) (hd : (x == ("__debug__" : Str)) = false := by decide) (hcd : (x == ("__classdict__" : Str)) = false := by decide) : E X Γ (.Name x pos) d :=
  e_of (pe_var (i := i) (by rw [F.hN]; exact hN) (by rw [F.hsc]; exact vis_of hv) hd hcd) (evd_var h)
theorem e_int {i j} : E X Γ (.Constant (.int i) j pos) (.int i) := e_of pe_int (evd_val fun _ => .int i)
theorem e_bool {v j} : E X Γ (.Constant (.bool v) j pos) (.bool v) := e_of pe_bl (evd_val fun _ => .bl v)
theorem e_none {j} : E X Γ (.Constant .none j pos) .none := e_of pe_non (evd_val fun _ => .non)
theorem e_str {x j} : E X Γ (.Constant (.str x) j pos) (.str x) := e_of pe_str (evd_val fun _ => .str x)
/-- a constant of the module -/
theorem e_glob (F : XF X P w K mg base N sc k) {x : Str} {v : V} {u : Value} (hg : glB sc x = true) (hm : mg x = some u) (r : RelV v u) (h : ∀ G, Dt K G v d) (hd : (x == ("__debug__" : Str)) = false := by decide) : E X Γ (.Name x pos) d :=
  e_of (pe_glob (F.gl hg) (by rw [F.hmg]; exact hm) r hd) (evd_val (by rw [F.hK]; exact h))

/-! ### operators -/
theorem od_I0 {g : Int → Int → V} {i j : Int} (h : ∀ G, Dt K G (g i j) z) : OD K (rI0 g) (.int i) (.int j) z := fun G H v u e h1 h2 Q hQ => by
  cases h1
  cases h2
  exact ⟨i, j, rfl, rfl, hQ _ G H (Gr.refl e) (h G)⟩
theorem od_I {C : Int → Int → Prop} {g : Int → Int → V} {i j : Int} (hc : C i j) (h : ∀ G, Dt K G (g i j) z) : OD K (rI C g) (.int i) (.int j) z := fun G H v u e h1 h2 Q hQ => by
  cases h1
  cases h2
  exact ⟨i, j, rfl, rfl, hc, hQ _ G H (Gr.refl e) (h G)⟩
theorem e_bin {op : Operator} {r : R2} (ho : OpR X (binaryOp op) r) (ha : E X Γ a x) (hb : E X Γ b y) (od : OD X.K r x y z) : E X Γ (.BinOp a op b pos) z := e_of (pe_op ho peS peS) (evd_op ha hb od)
section
variable {i j : Int}
theorem e_add (ha : E X Γ a (.int i)) (hb : E X Γ b (.int j)) : E X Γ (.BinOp a .Add b pos) (.int (i + j)) := e_bin op_add ha hb (od_I0 fun _ => .int _)
theorem e_sub (ha : E X Γ a (.int i)) (hb : E X Γ b (.int j)) : E X Γ (.BinOp a .Sub b pos) (.int (i - j)) := e_bin op_sub ha hb (od_I0 fun _ => .int _)
theorem e_mul (ha : E X Γ a (.int i)) (hb : E X Γ b (.int j)) (hc : CMul i j) : E X Γ (.BinOp a .Mult b pos) (.int (i * j)) := e_bin op_mul ha hb (od_I hc fun _ => .int _)
theorem e_div (ha : E X Γ a (.int i)) (hb : E X Γ b (.int j)) (hc : 0 < j ∧ j < 1073741824) : E X Γ (.BinOp a .FloorDiv b pos) (.int (i / j)) := e_bin op_fdiv ha hb (od_I hc fun _ => .int _)
theorem e_mod (ha : E X Γ a (.int i)) (hb : E X Γ b (.int j)) (hc : 0 < j) : E X Γ (.BinOp a .Mod b pos) (.int (i % j)) := e_bin op_mod ha hb (od_I hc fun _ => .int _)
theorem e_and_ (ha : E X Γ a (.int i)) (hb : E X Γ b (.int j)) : E X Γ (.BinOp a .BitAnd b pos) (.int (Builtin.bitAnd i j)) := e_bin op_and ha hb (od_I0 fun _ => .int _)
theorem e_shr (ha : E X Γ a (.int i)) (hb : E X Γ b (.int j)) (hc : 0 ≤ j) : E X Γ (.BinOp a .RShift b pos) (.int (i / 2 ^ j.toNat)) := e_bin op_shr ha hb (od_I hc fun _ => .int _)
theorem e_shl (ha : E X Γ a (.int i)) (hb : E X Γ b (.int j)) (hc : CPow i j) : E X Γ (.BinOp a .LShift b pos) (.int (i * 2 ^ j.toNat)) := e_bin op_shl ha hb (od_I hc fun _ => .int _)
theorem e_pow (ha : E X Γ a (.int i)) (hb : E X Γ b (.int j)) (hc : CPow i j) : E X Γ (.BinOp a .Pow b pos) (.int (i ^ j.toNat)) := e_bin op_pow ha hb (od_I hc fun _ => .int _)
theorem e_neg (ha : E X Γ a (.int i)) : E X Γ (.UnaryOp .USub a pos) (.int (-i)) := e_of (pe_un un_neg peS) (evd_un ha fun G H v e h Q hQ => by
  cases h
  exact ⟨i, rfl, hQ _ G H (Gr.refl e) (.int _)⟩)
end

/-! ### comparisons: as a value, as a test -/
theorem e_cmp {op : CmpOp} {r : R2} (ho : OpR X (compareOp op) r) (od : OD X.K r x y z) (ha : E X Γ a x) (hb : E X Γ b y) (hm : behindInMarks op b = false) : E X Γ (.Compare a [op] [b] pos) z := e_of (pe_cmpR ho peS peS hm) (evd_op ha hb od)
theorem t_cmp {op : CmpOp} {r : R2} {v : Bool} (ho : OpR X (compareOp op) r) (od : OD X.K r x y (.bool v)) (ha : E X Γ a x) (hb : E X Γ b y) (hm : behindInMarks op b = false) : T X Γ (.Compare a [op] [b] pos) v := t_of (pt_cmpR ho peS peS hm) (evb_test (te := tOp r _ _) (evd_op ha hb od))
section
variable {i j : Int}
theorem e_lt (ha : E X Γ a (.int i)) (hb : E X Γ b (.int j)) : E X Γ (.Compare a [.Lt] [b] pos) (.bool (decide (i < j))) := e_cmp op_lt (od_I0 fun _ => .bl _) ha hb (nomark _)
theorem e_le (ha : E X Γ a (.int i)) (hb : E X Γ b (.int j)) : E X Γ (.Compare a [.LtE] [b] pos) (.bool (decide (i ≤ j))) := e_cmp op_le (od_I0 fun _ => .bl _) ha hb (nomark _)
theorem e_gt (ha : E X Γ a (.int i)) (hb : E X Γ b (.int j)) : E X Γ (.Compare a [.Gt] [b] pos) (.bool (decide (j < i))) := e_cmp op_gt (od_I0 fun _ => .bl _) ha hb (nomark _)
theorem e_ge (ha : E X Γ a (.int i)) (hb : E X Γ b (.int j)) : E X Γ (.Compare a [.GtE] [b] pos) (.bool (decide (j ≤ i))) := e_cmp op_ge (od_I0 fun _ => .bl _) ha hb (nomark _)
theorem t_lt (ha : E X Γ a (.int i)) (hb : E X Γ b (.int j)) : T X Γ (.Compare a [.Lt] [b] pos) (decide (i < j)) := t_cmp op_lt (od_I0 fun _ => .bl _) ha hb (nomark _)
theorem t_le (ha : E X Γ a (.int i)) (hb : E X Γ b (.int j)) : T X Γ (.Compare a [.LtE] [b] pos) (decide (i ≤ j)) := t_cmp op_le (od_I0 fun _ => .bl _) ha hb (nomark _)
theorem t_gt (ha : E X Γ a (.int i)) (hb : E X Γ b (.int j)) : T X Γ (.Compare a [.Gt] [b] pos) (decide (j < i)) := t_cmp op_gt (od_I0 fun _ => .bl _) ha hb (nomark _)
theorem t_ge (ha : E X Γ a (.int i)) (hb : E X Γ b (.int j)) : T X Γ (.Compare a [.GtE] [b] pos) (decide (j ≤ i)) := t_cmp op_ge (od_I0 fun _ => .bl _) ha hb (nomark _)
/-- ==, != of two ints, two texts, two bools -/
inductive Sc : PyData → PyData → Bool → Prop
  | int (i j : Int) : Sc (.int i) (.int j) (decide (i = j))
  | str (i j : Str) : Sc (.str i) (.str j) (decide (i = j))
  | bool (i j : Bool) : Sc (.bool i) (.bool j) (decide (i = j))
theorem od_eq {v : Bool} (s : Sc x y v) : OD K rEq x y (.bool v) := fun G H v' u e h1 h2 Q hQ => by
  cases s <;> (cases h1; cases h2; refine ⟨rfl, ?_⟩; rename_i i j; have q := hQ (.bl (decide (i = j))) G H (Gr.refl e) (.bl _))
  · rw [show decide (V.int i = V.int j) = decide (i = j) by simp]; exact q
  · rw [show decide (V.str i = V.str j) = decide (i = j) by simp]; exact q
  · rw [show decide (V.bl i = V.bl j) = decide (i = j) by simp]; exact q
theorem od_ne {v : Bool} (s : Sc x y v) : OD K rNe x y (.bool (!v)) := fun G H v' u e h1 h2 Q hQ => by
  cases s <;> (cases h1; cases h2; refine ⟨rfl, ?_⟩; rename_i i j; have q := hQ (.bl (!decide (i = j))) G H (Gr.refl e) (.bl _))
  · rw [show decide (V.int i = V.int j) = decide (i = j) by simp]; exact q
  · rw [show decide (V.str i = V.str j) = decide (i = j) by simp]; exact q
  · rw [show decide (V.bl i = V.bl j) = decide (i = j) by simp]; exact q
theorem e_eq {v : Bool} (ha : E X Γ a x) (hb : E X Γ b y) (s : Sc x y v) : E X Γ (.Compare a [.Eq] [b] pos) (.bool v) := e_cmp op_eq (od_eq s) ha hb (nomark _)
theorem t_eq {v : Bool} (ha : E X Γ a x) (hb : E X Γ b y) (s : Sc x y v) : T X Γ (.Compare a [.Eq] [b] pos) v := t_cmp op_eq (od_eq s) ha hb (nomark _)
theorem e_ne {v : Bool} (ha : E X Γ a x) (hb : E X Γ b y) (s : Sc x y v) : E X Γ (.Compare a [.NotEq] [b] pos) (.bool (!v)) := e_cmp op_ne (od_ne s) ha hb (nomark _)
theorem t_ne {v : Bool} (ha : E X Γ a x) (hb : E X Γ b y) (s : Sc x y v) : T X Γ (.Compare a [.NotEq] [b] pos) (!v) := t_cmp op_ne (od_ne s) ha hb (nomark _)
end
/-- ==, != of data at any depth -/
theorem od_eqD (n1 : noscr x = true) (n2 : noscr y = true) (s1 : SeqAt.shaped x = true) (s2 : SeqAt.shaped y = true) : OD K (rEqD K) x y (.bool (PyData.eqv x y)) := fun G H v u e h1 h2 Q hQ =>
  ⟨x, y, dt_dp _ _ n1 (dp_ex e _ _ h1), dt_dp _ _ n2 (dp_ex e _ _ h2), s1, s2, hQ _ G H (Gr.refl e) (.bl _)⟩
theorem od_neD (n1 : noscr x = true) (n2 : noscr y = true) (s1 : SeqAt.shaped x = true) (s2 : SeqAt.shaped y = true) : OD K (rNeD K) x y (.bool (!PyData.eqv x y)) := fun G H v u e h1 h2 Q hQ =>
  ⟨x, y, dt_dp _ _ n1 (dp_ex e _ _ h1), dt_dp _ _ n2 (dp_ex e _ _ h2), s1, s2, hQ _ G H (Gr.refl e) (.bl _)⟩
theorem t_eqD (F : XF X P w K mg base N sc k) (ha : E X Γ a x) (hb : E X Γ b y) (n1 : noscr x = true) (n2 : noscr y = true) (s1 : SeqAt.shaped x = true) (s2 : SeqAt.shaped y = true) : T X Γ (.Compare a [.Eq] [b] pos) (PyData.eqv x y) :=
  t_cmp (op_eqD F.room.units) (od_eqD n1 n2 s1 s2) ha hb (nomark _)
theorem t_neD (F : XF X P w K mg base N sc k) (ha : E X Γ a x) (hb : E X Γ b y) (n1 : noscr x = true) (n2 : noscr y = true) (s1 : SeqAt.shaped x = true) (s2 : SeqAt.shaped y = true) : T X Γ (.Compare a [.NotEq] [b] pos) (!PyData.eqv x y) :=
  t_cmp (op_neD F.room.units) (od_neD n1 n2 s1 s2) ha hb (nomark _)
/-- is None, is not None -/
def isNone : PyData → Bool
  | .none => true
  | _ => false
theorem dt_none {G : Hp} {v : V} {x : PyData} (h : Dt K G v x) : decide (v = .non) = isNone x := by cases h <;> simp [isNone, tabD]
theorem od_is : OD K (fun x y H Q => y = .non ∧ Q (.bl (decide (x = .non))) H) x .none (.bool (isNone x)) := fun G H v u e h1 h2 Q hQ => by
  cases h2
  exact ⟨rfl, hQ _ G H (Gr.refl e) (by rw [dt_none h1]; exact .bl _)⟩
theorem od_isnt : OD K (fun x y H Q => y = .non ∧ Q (.bl (!decide (x = .non))) H) x .none (.bool (!isNone x)) := fun G H v u e h1 h2 Q hQ => by
  cases h2
  exact ⟨rfl, hQ _ G H (Gr.refl e) (by rw [dt_none h1]; exact .bl _)⟩
theorem e_is {j p'} (ha : E X Γ a x) : E X Γ (.Compare a [.Is] [.Constant .none j p'] pos) (.bool (isNone x)) := e_cmp op_isN od_is ha e_none (nomark _)
theorem t_is {j p'} (ha : E X Γ a x) : T X Γ (.Compare a [.Is] [.Constant .none j p'] pos) (isNone x) := t_cmp op_isN od_is ha e_none (nomark _)
theorem e_isnt {j p'} (ha : E X Γ a x) : E X Γ (.Compare a [.IsNot] [.Constant .none j p'] pos) (.bool (!isNone x)) := e_cmp op_notN od_isnt ha e_none (nomark _)
theorem t_isnt {j p'} (ha : E X Γ a x) : T X Γ (.Compare a [.IsNot] [.Constant .none j p'] pos) (!isNone x) := t_cmp op_notN od_isnt ha e_none (nomark _)
/-! in, not in: flat items of a list or tuple -/
def flatD : PyData → Option V
  | .none => some .non
  | .bool b => some (.bl b)
  | .int i => some (.int i)
  | .str x => some (.str x)
  | _ => none
theorem dt_flat {G : Hp} {v u : V} {x : PyData} (f : flatD x = some u) (h : Dt K G v x) : v = u ∧ flatV v = true := by
  cases h <;> simp [flatD, tabD] at f <;> subst f <;> exact ⟨rfl, rfl⟩
theorem dt_flats {G : Hp} : ∀ {us vs : List V} {xs : List PyData}, xs.map flatD = us.map some → DtAll K G vs xs → vs = us ∧ vs.all flatV = true
  | us, _, _, f, .nil => by
    cases us with
    | nil => exact ⟨rfl, rfl⟩
    | cons _ _ => simp at f
  | us, _, _, f, .cons a b => by
    cases us with
    | nil => simp at f
    | cons u us =>
      simp only [List.map_cons, List.cons.injEq] at f
      obtain ⟨e1, f1⟩ := dt_flat f.1 a
      obtain ⟨e2, f2⟩ := dt_flats f.2 b
      subst e1 e2
      exact ⟨rfl, by simp [f1]; simpa using f2⟩
def seqOf : PyData → Option (List PyData)
  | .list ds => some ds
  | .tuple ds => some ds
  | _ => none
theorem od_in {u : V} {us : List V} {neg : Bool} (fx : flatD x = some u) (fy : seqOf y = some ds) (fs : ds.map flatD = us.map some) : OD K (rIn K neg) x y (.bool (if neg then !inV u us else inV u us)) := fun G H v q e h1 h2 Q hQ => by
  obtain ⟨rfl, f1⟩ := dt_flat fx h1
  cases h2 with
  | lst hs ha =>
    simp [seqOf] at fy
    subst fy
    obtain ⟨rfl, f2⟩ := dt_flats fs ha
    exact ⟨_, _, rfl, .inl (ex_l e (sq_of hs)), f1, f2, hQ _ G H (Gr.refl e) (.bl _)⟩
  | tup hs ha =>
    simp [seqOf] at fy
    subst fy
    obtain ⟨rfl, f2⟩ := dt_flats fs ha
    exact ⟨_, _, rfl, .inr (ex_t e hs), f1, f2, hQ _ G H (Gr.refl e) (.bl _)⟩
  | _ => simp [seqOf, tabD] at fy
section
variable {u : V} {us : List V}
theorem e_in (ha : E X Γ a x) (hb : E X Γ b y) (fx : flatD x = some u) (fy : seqOf y = some ds) (fs : ds.map flatD = us.map some) (hm : behindInMarks .In b = false := by rfl) : E X Γ (.Compare a [.In] [b] pos) (.bool (inV u us)) := e_cmp op_in_seq (od_in (neg := false) fx fy fs) ha hb hm
theorem t_in (ha : E X Γ a x) (hb : E X Γ b y) (fx : flatD x = some u) (fy : seqOf y = some ds) (fs : ds.map flatD = us.map some) (hm : behindInMarks .In b = false := by rfl) : T X Γ (.Compare a [.In] [b] pos) (inV u us) := t_cmp op_in_seq (od_in (neg := false) fx fy fs) ha hb hm
theorem e_nin (ha : E X Γ a x) (hb : E X Γ b y) (fx : flatD x = some u) (fy : seqOf y = some ds) (fs : ds.map flatD = us.map some) (hm : behindInMarks .NotIn b = false := by rfl) : E X Γ (.Compare a [.NotIn] [b] pos) (.bool (!inV u us)) := e_cmp op_notIn_seq (od_in (neg := true) fx fy fs) ha hb hm
theorem t_nin (ha : E X Γ a x) (hb : E X Γ b y) (fx : flatD x = some u) (fy : seqOf y = some ds) (fs : ds.map flatD = us.map some) (hm : behindInMarks .NotIn b = false := by rfl) : T X Γ (.Compare a [.NotIn] [b] pos) (!inV u us) := t_cmp op_notIn_seq (od_in (neg := true) fx fy fs) ha hb hm
end
/-- not in a list: data of any depth -/
theorem od_ninD (n1 : noscr x = true) (n2 : noscrs ds = true) (s1 : SeqAt.shaped x = true) (s2 : SeqAt.shaped (.list ds) = true) : OD K (rNotInD K) x (.list ds) (.bool (!ds.any fun z => PyData.eqv z x)) := fun G H v u e h1 h2 Q hQ =>
  ⟨x, ds, dt_dp _ _ n1 (dp_ex e _ _ h1), dt_dp _ _ (by simpa [noscr] using n2) (dp_ex e _ _ h2), s1, s2, hQ _ G H (Gr.refl e) (.bl _)⟩
theorem t_ninD (F : XF X P w K mg base N sc k) (ha : E X Γ a x) (hb : E X Γ b (.list ds)) (n1 : noscr x = true) (n2 : noscrs ds = true) (s1 : SeqAt.shaped x = true) (s2 : SeqAt.shaped (.list ds) = true) (hm : behindInMarks .NotIn b = false := by rfl) :
    T X Γ (.Compare a [.NotIn] [b] pos) (!ds.any fun z => PyData.eqv z x) := t_cmp (op_notInD (by have := F.hu; omega)) (od_ninD n1 n2 s1 s2) ha hb hm
end
end Z
set_option Elab.async false
set_option linter.all false
set_option maxRecDepth 100000
set_option maxHeartbeats 2000000
/-! More expressions: and, or, not, if, items, slices, displays, calls. -/
namespace Z
open PySem PySem.Spec PyProof.Rows L2 Evl
section
variable {X : Cx} {P : Program} {w : World} {K : PySem.W.Frag} {mg : Str → Option Value} {base : Heap} {N : List Str} {sc : Scope} {k : Nat}
variable {Γ : List Sl} {e a b c : Expr} {es rest : List Expr} {d x y z : PyData} {ds : List PyData} {pos p : Pos} {u v : Bool}

/-! ### and, or, not, if -/
theorem evb_and {t1 t2 : TT} (h1 : EvB K t1 Γ u) (h2 : u = true → EvB K t2 Γ v) : EvB K (tAnd t1 t2) Γ (u && v) := fun G0 H0 σ G H hA Q hQ =>
  h1 G0 H0 σ G H hA _ fun G1 H1 g1 => by
    cases u with
    | true =>
      show t2 σ H1 Q
      exact h2 rfl G0 H0 σ G1 H1 (hA.grow g1) Q fun G2 H2 g2 => hQ G2 H2 (g1.trans g2)
    | false =>
      show Q false H1
      exact hQ G1 H1 g1
theorem evb_or {t1 t2 : TT} (h1 : EvB K t1 Γ u) (h2 : u = false → EvB K t2 Γ v) : EvB K (tOr t1 t2) Γ (u || v) := fun G0 H0 σ G H hA Q hQ =>
  h1 G0 H0 σ G H hA _ fun G1 H1 g1 => by
    cases u with
    | true =>
      show Q true H1
      exact hQ G1 H1 g1
    | false =>
      show t2 σ H1 Q
      exact h2 rfl G0 H0 σ G1 H1 (hA.grow g1) Q fun G2 H2 g2 => hQ G2 H2 (g1.trans g2)
theorem tw_and1 (h : T X Γ a v) : TW X Γ (.BoolOp .And [a] pos) v := tw_of (pw_and1 ptS) h
theorem tw_or1 (h : T X Γ a v) : TW X Γ (.BoolOp .Or [a] pos) v := tw_of (pw_or1 ptS) h
theorem tw_and (h1 : T X Γ a u) (h2 : u = true → TW X Γ (.BoolOp .And (b :: rest) pos) v) : TW X Γ (.BoolOp .And (a :: b :: rest) pos) (u && v) := tw_of (pw_and ptS pwS) (evb_and h1 h2)
theorem tw_or (h1 : T X Γ a u) (h2 : u = false → TW X Γ (.BoolOp .Or (b :: rest) pos) v) : TW X Γ (.BoolOp .Or (a :: b :: rest) pos) (u || v) := tw_of (pw_or ptS pwS) (evb_or h1 h2)
theorem t_and2 (h1 : T X Γ a u) (h2 : u = true → T X Γ b v) : T X Γ (.BoolOp .And [a, b] pos) (u && v) := tw_t (tw_and h1 fun e => tw_and1 (h2 e))
theorem t_or2 (h1 : T X Γ a u) (h2 : u = false → T X Γ b v) : T X Γ (.BoolOp .Or [a, b] pos) (u || v) := tw_t (tw_or h1 fun e => tw_or1 (h2 e))
theorem t_not (h : T X Γ a v) : T X Γ (.UnaryOp .Not a pos) (!v) := t_of (pt_not ptS) fun G0 H0 σ G H hA Q hQ => h G0 H0 σ G H hA _ hQ
theorem e_one {op} (h : E X Γ a d) : E X Γ (.BoolOp op [a] pos) d := e_of (pe_one peS) h
theorem e_and (h1 : E X Γ a (.bool u)) (h2 : u = true → E X Γ (.BoolOp .And (b :: rest) pos) (.bool v)) : E X Γ (.BoolOp .And (a :: b :: rest) pos) (.bool (u && v)) := e_of (pe_and peS peS) fun G0 H0 σ G H hA Q hQ =>
  h1 G0 H0 σ G H hA _ fun x1 G1 H1 g1 d1 => by
    cases d1
    refine ⟨u, rfl, ?_⟩
    cases u with
    | true =>
      show teS X _ σ H1 Q
      exact h2 rfl G0 H0 σ G1 H1 (hA.grow g1) Q fun x2 G2 H2 g2 d2 => hQ _ G2 H2 (g1.trans g2) d2
    | false =>
      show Q _ H1
      exact hQ _ G1 H1 g1 (.bl _)
theorem e_or (h1 : E X Γ a (.bool u)) (h2 : u = false → E X Γ (.BoolOp .Or (b :: rest) pos) (.bool v)) : E X Γ (.BoolOp .Or (a :: b :: rest) pos) (.bool (u || v)) := e_of (pe_or peS peS) fun G0 H0 σ G H hA Q hQ =>
  h1 G0 H0 σ G H hA _ fun x1 G1 H1 g1 d1 => by
    cases d1
    refine ⟨u, rfl, ?_⟩
    cases u with
    | true =>
      show Q _ H1
      exact hQ _ G1 H1 g1 (.bl _)
    | false =>
      show teS X _ σ H1 Q
      exact h2 rfl G0 H0 σ G1 H1 (hA.grow g1) Q fun x2 G2 H2 g2 d2 => hQ _ G2 H2 (g1.trans g2) d2
theorem e_and2 (h1 : E X Γ a (.bool u)) (h2 : u = true → E X Γ b (.bool v)) : E X Γ (.BoolOp .And [a, b] pos) (.bool (u && v)) := e_and h1 fun e => e_one (h2 e)
theorem e_or2 (h1 : E X Γ a (.bool u)) (h2 : u = false → E X Γ b (.bool v)) : E X Γ (.BoolOp .Or [a, b] pos) (.bool (u || v)) := e_or h1 fun e => e_one (h2 e)
theorem e_not (h : E X Γ a (.bool v)) : E X Γ (.UnaryOp .Not a pos) (.bool (!v)) := e_of (pe_not peS) fun G0 H0 σ G H hA Q hQ =>
  h G0 H0 σ G H hA _ fun x1 G1 H1 g1 d1 => by
    cases d1
    exact ⟨v, rfl, hQ _ G1 H1 g1 (.bl _)⟩
theorem e_if (h : T X Γ c v) (h1 : v = true → E X Γ a d) (h2 : v = false → E X Γ b d) : E X Γ (.IfExp c a b pos) d := e_of (pe_ifExp ptS peS peS) fun G0 H0 σ G H hA Q hQ =>
  h G0 H0 σ G H hA _ fun G1 H1 g1 => by
    cases v with
    | true =>
      show teS X _ σ H1 Q
      exact h1 rfl G0 H0 σ G1 H1 (hA.grow g1) Q fun x2 G2 H2 g2 d2 => hQ _ G2 H2 (g1.trans g2) d2
    | false =>
      show teS X _ σ H1 Q
      exact h2 rfl G0 H0 σ G1 H1 (hA.grow g1) Q fun x2 G2 H2 g2 d2 => hQ _ G2 H2 (g1.trans g2) d2
/-- a value True or False as a test (a name, an item, a call) -/
theorem t_val (h : E X Γ e (.bool v)) (he : ∀ whole, isTrue e X.env whole = (do let v ← whole; standAt e.pos; holding [v] (truthy v)) := by intro _; rfl) : T X Γ e v := t_of (pt_val peS he) (evb_test h)
/-- two comparisons in a chain -/
theorem evd_chain {r r' : R2} {ta tb tc : TE} (ha : EvD K ta Γ x) (hb : EvD K tb Γ y) (h1 : OD K r x y (.bool u)) (hc : u = true → EvD K tc Γ z) (h2 : u = true → OD K r' y z (.bool v)) : EvD K (tChain r r' ta tb tc) Γ (.bool (u && v)) := fun G0 H0 σ G H hA Q hQ =>
  ha G0 H0 σ G H hA _ fun x1 G1 H1 g1 d1 => hb G0 H0 σ G1 H1 (hA.grow g1) _ fun y1 G2 H2 g2 d2 => h1 G2 H2 x1 y1 g2.gh (dp_ex g2.gg _ _ d1) d2 _ fun z1 G3 H3 g3 d3 => by
    cases d3
    refine ⟨u, rfl, ?_⟩
    cases u with
    | true =>
      rw [if_pos rfl]
      exact hc rfl G0 H0 σ G3 H3 (((hA.grow g1).grow g2).grow g3) _ fun w1 G4 H4 g4 d4 => h2 rfl G4 H4 y1 w1 g4.gh (dp_ex (g3.trans g4).gg _ _ d2) d4 Q fun q1 G5 H5 g5 d5 => hQ _ G5 H5 ((((g1.trans g2).trans g3).trans g4).trans g5) d5
    | false =>
      rw [if_neg Bool.false_ne_true]
      exact hQ _ G3 H3 ((g1.trans g2).trans g3) (.bl _)
section
variable {i j l : Int}
theorem e_chain_le (ha : E X Γ a (.int i)) (hb : E X Γ b (.int j)) (hc : E X Γ c (.int l)) (hm : lastMarks [.LtE, .LtE] [b, c] = false := by with_unfolding_all rfl) : E X Γ (.Compare a [.LtE, .LtE] [b, c] pos) (.bool (decide (i ≤ j) && decide (j ≤ l))) :=
  e_of (pe_chain op_le op_le peS peS peS hm) (evd_chain ha hb (od_I0 fun _ => .bl _) (fun _ => hc) fun _ => od_I0 fun _ => .bl _)
theorem t_chain_le (ha : E X Γ a (.int i)) (hb : E X Γ b (.int j)) (hc : E X Γ c (.int l)) (hm : lastMarks [.LtE, .LtE] [b, c] = false := by with_unfolding_all rfl) : T X Γ (.Compare a [.LtE, .LtE] [b, c] pos) (decide (i ≤ j) && decide (j ≤ l)) :=
  t_of (pt_chain op_le op_le peS peS peS hm) (evb_test (te := tChain _ _ _ _ _) (evd_chain ha hb (od_I0 fun _ => .bl _) (fun _ => hc) fun _ => od_I0 fun _ => .bl _))
theorem t_chain_gt (ha : E X Γ a (.int i)) (hb : E X Γ b (.int j)) (hc : E X Γ c (.int l)) (hm : lastMarks [.Gt, .Gt] [b, c] = false := by with_unfolding_all rfl) : T X Γ (.Compare a [.Gt, .Gt] [b, c] pos) (decide (j < i) && decide (l < j)) :=
  t_of (pt_chain op_gt op_gt peS peS peS hm) (evb_test (te := tChain _ _ _ _ _) (evd_chain ha hb (od_I0 fun _ => .bl _) (fun _ => hc) fun _ => od_I0 fun _ => .bl _))
end

/-! ### items -/
theorem ixN_some {α : Type} {xs : List α} {i : Int} {d : α} (h : atI xs i = some d) : ∃ j, ixN xs.length i = some j ∧ xs[j]? = some d := by
  unfold atI at h
  cases e : ixN xs.length i with
  | none =>
    rw [e] at h
    cases h
  | some j =>
    rw [e] at h
    exact ⟨j, rfl, h⟩
theorem atI_dt {G : Hp} {vs : List V} {i : Int} (h : DtAll K G vs ds) (ha : atI ds i = some d) : ∃ v, atI vs i = some v ∧ Dt K G v d := by
  obtain ⟨j, h1, h2⟩ := ixN_some ha
  obtain ⟨v, h3, h4⟩ := dpa_get h h2
  refine ⟨v, ?_, h4⟩
  unfold atI
  rw [dpa_len h, h1]
  exact h3
theorem od_ixL {i : Int} (h : atI ds i = some d) : OD K (rIxL K) (.list ds) (.int i) d := fun G H v u e h1 h2 Q hQ => by
  cases h1 with
  | lst hs ha =>
    cases h2
    obtain ⟨v, h3, h4⟩ := atI_dt ha h
    exact ⟨_, _, i, v, rfl, rfl, ex_l e (sq_of hs), h3, hQ _ G H (Gr.refl e) h4⟩
theorem od_ixT {i : Int} (h : atI ds i = some d) : OD K (rIxT K) (.tuple ds) (.int i) d := fun G H v u e h1 h2 Q hQ => by
  cases h1 with
  | tup hs ha =>
    cases h2
    obtain ⟨v, h3, h4⟩ := atI_dt ha h
    exact ⟨_, _, i, v, rfl, rfl, ex_t e hs, h3, hQ _ G H (Gr.refl e) h4⟩
/-- an item of a script -/
theorem od_ixS {ns : List Int} {i n : Int} (h : atI ns i = some n) : OD K (rIxL K) (.dict (ns.map fun n => (.int n, .none))) (.int i) (.int n) := fun G H v u e h1 h2 Q hQ => by
  generalize hk : PyData.dict (ns.map fun n => (PyData.int n, PyData.none)) = dd at h1
  cases h1 with
  | @scr a ms hs =>
    cases h2
    have e1 : ns = ms := by
      injection hk with hk
      have e2 := congrArg (List.map fun p : PyData × PyData => match p.1 with | .int n => n | _ => 0) hk
      simpa [List.map_map, Function.comp_def] using e2
    subst e1
    obtain ⟨j, h3, h4⟩ := ixN_some h
    refine ⟨_, _, i, .int n, rfl, rfl, ex_l e hs, ?_, hQ _ G H (Gr.refl e) (.int _)⟩
    unfold atI
    rw [List.length_map, h3]
    show (ns.map V.int)[j]? = _
    rw [List.getElem?_map, h4]
    rfl
  | tab => 
    injection hk with hk
    cases ns with
    | nil => cases hk
    | cons n ns => simp at hk
  | _ => cases hk
theorem e_ixL {i : Int} (ha : E X Γ a (.list ds)) (hb : E X Γ b (.int i)) (h : atI ds i = some d) (hs : PlainIx b := by exact fun _ _ => rfl) : E X Γ (.Subscript a b pos) d := e_of (pe_ix ix_list peS peS hs) (evd_op ha hb (od_ixL h))
theorem e_ixT {i : Int} (ha : E X Γ a (.tuple ds)) (hb : E X Γ b (.int i)) (h : atI ds i = some d) (hs : PlainIx b := by exact fun _ _ => rfl) : E X Γ (.Subscript a b pos) d := e_of (pe_ix ix_tup peS peS hs) (evd_op ha hb (od_ixT h))
theorem e_ixS {ns : List Int} {i n : Int} (ha : E X Γ a (.dict (ns.map fun n => (.int n, .none)))) (hb : E X Γ b (.int i)) (h : atI ns i = some n) (hs : PlainIx b := by exact fun _ _ => rfl) : E X Γ (.Subscript a b pos) (.int n) := e_of (pe_ix ix_list peS peS hs) (evd_op ha hb (od_ixS h))
theorem atI_nn {α : Type} {xs : List α} {i : Nat} {d : α} (h : xs[i]? = some d) : atI xs (i : Int) = some d := by
  have hl := (List.getElem?_eq_some_iff.mp h).1
  unfold atI ixN
  rw [if_pos (by omega), if_pos (by omega)]
  simpa using h

/-! ### slices -/
/-- what a slice is, of data -/
def cutD (xs : List PyData) (lo hi : Option Int) : List PyData := (xs.drop (HT.sIx xs.length 0 lo)).take (HT.sIx xs.length xs.length hi - HT.sIx xs.length 0 lo)
theorem cut_dt {G : Hp} {vs : List V} {lo hi : Option Int} (h : DtAll K G vs ds) : DtAll K G (cutV vs lo hi) (cutD ds lo hi) := by
  unfold cutV cutD
  rw [dpa_len h]
  exact dpa_take _ (dpa_drop _ h)
def EvO (K : PySem.W.Frag) (t : TO) (Γ : List Sl) (o : Option Int) : Prop := ∀ G0 H0 σ G H, At K G0 H0 Γ σ G H → ∀ Q : Option Int → Hp → Prop, (∀ G' H', Gr G H G' H' → Q o H') → t σ H Q
inductive PP (X : Cx) (Γ : List Sl) : Option Expr → Option Int → Prop
  | none : PP X Γ none none
  | some {e : Expr} {i : Int} : E X Γ e (.int i) → PP X Γ (some e) (some i)
theorem pp_of {o : Option Expr} {i : Option Int} (h : PP X Γ o i) : ∃ t, PO X o t ∧ EvO X.K t Γ i := by
  cases h with
  | none => exact ⟨_, po_none, fun G0 H0 σ G H hA Q hQ => hQ G H (Gr.refl hA.gr.gh)⟩
  | some h => exact ⟨_, po_some peS, fun G0 H0 σ G H hA Q hQ => h G0 H0 σ G H hA _ fun v G1 H1 g1 d1 => by
      cases d1
      exact ⟨_, rfl, hQ G1 H1 g1⟩⟩
section
variable {lo hi : Option Expr} {l h : Option Int} {p2 : Pos}
theorem e_slL (ha : E X Γ a (.list ds)) (h1 : PP X Γ lo l) (h2 : PP X Γ hi h) : E X Γ (.Subscript a (.Slice lo hi none p2) pos) (.list (cutD ds l h)) := by
  obtain ⟨t1, q1, v1⟩ := pp_of h1
  obtain ⟨t2, q2, v2⟩ := pp_of h2
  refine e_of (pe_slice sl_list peS q1 q2) fun G0 H0 σ G H hA Q hQ => ha G0 H0 σ G H hA _ fun x1 G1 H1 g1 d1 => v1 G0 H0 σ G1 H1 (hA.grow g1) _ fun G2 H2 g2 => v2 G0 H0 σ G2 H2 ((hA.grow g1).grow g2) _ fun G3 H3 g3 => ?_
  cases d1 with
  | lst hs hd =>
    refine ⟨_, _, rfl, sq_of ((g2.trans g3).hh _ _ (g1.gh _ _ hs)), fun p hp => hQ _ _ _ (((g1.trans g2).trans g3).trans (Gr.new g3.gh hp)) (.lst upd_same (dp_exs (((g2.trans g3).trans (Gr.new g3.gh hp)).gg) _ _ (cut_dt hd)))⟩
theorem e_slT (ha : E X Γ a (.tuple ds)) (h1 : PP X Γ lo l) (h2 : PP X Γ hi h) : E X Γ (.Subscript a (.Slice lo hi none p2) pos) (.tuple (cutD ds l h)) := by
  obtain ⟨t1, q1, v1⟩ := pp_of h1
  obtain ⟨t2, q2, v2⟩ := pp_of h2
  refine e_of (pe_slice sl_tupA peS q1 q2) fun G0 H0 σ G H hA Q hQ => ha G0 H0 σ G H hA _ fun x1 G1 H1 g1 d1 => v1 G0 H0 σ G1 H1 (hA.grow g1) _ fun G2 H2 g2 => v2 G0 H0 σ G2 H2 ((hA.grow g1).grow g2) _ fun G3 H3 g3 => ?_
  cases d1 with
  | @tup a1 xs _ hs hd =>
    refine ⟨_, _, rfl, ex_t (g2.trans g3).hh (ex_t g1.gh hs), fun hw => ?_, fun _ p hp => hQ _ _ _ (((g1.trans g2).trans g3).trans (Gr.new g3.gh hp)) (.tup (st_of upd_same) (dp_exs (((g2.trans g3).trans (Gr.new g3.gh hp)).gg) _ _ (cut_dt hd)))⟩
    have e1 : cutD ds l h = ds := by
      unfold cutD
      rw [← dpa_len hd, hw.1, hw.2]
      simp [dpa_len hd]
    rw [e1] at hQ
    exact hQ _ G3 H3 ((g1.trans g2).trans g3) (dp_ex (g2.trans g3).gg _ _ (.tup hs hd))
end

/-! ### +, * of lists and tuples -/
theorem e_catL {es : List PyData} (ha : E X Γ a (.list ds)) (hb : E X Γ b (.list es)) (hl : ds.length + es.length ≤ 100000) : E X Γ (.BinOp a .Add b pos) (.list (ds ++ es)) := e_bin op_cat ha hb fun G H v u e h1 h2 Q hQ => by
  cases h1 with
  | lst hs ha =>
    cases h2 with
    | lst ht hb =>
      refine ⟨_, _, _, _, rfl, rfl, e _ _ hs, e _ _ ht, sz_of (by rw [dpa_len ha, dpa_len hb]; exact hl), fun p hp => hQ _ _ _ (Gr.new e hp) (.lst upd_same (dp_exs (Gr.new e hp).gg _ _ (dpa_app ha hb)))⟩
theorem e_catT {es : List PyData} (ha : E X Γ a (.tuple ds)) (hb : E X Γ b (.tuple es)) (hl : ds.length + es.length ≤ 100000) : E X Γ (.BinOp a .Add b pos) (.tuple (ds ++ es)) := e_bin op_catA ha hb fun G H v u e h1 h2 Q hQ => by
  cases h1 with
  | tup hs ha =>
    cases h2 with
    | tup ht hb =>
      refine ⟨_, _, _, _, rfl, rfl, ex_t e hs, ex_t e ht, sz_of (by rw [dpa_len ha, dpa_len hb]; exact hl), fun h0 => ?_, fun _ h0 => ?_, fun _ _ p hp => hQ _ _ _ (Gr.new e hp) (.tup (st_of upd_same) (dp_exs (Gr.new e hp).gg _ _ (dpa_app ha hb)))⟩
      · subst h0
        cases ha
        exact hQ _ G H (Gr.refl e) (.tup ht hb)
      · subst h0
        cases hb
        rw [List.append_nil] at hQ
        exact hQ _ G H (Gr.refl e) (.tup hs ha)
theorem dpa_reps {G : Hp} {vs : List V} (h : DtAll K G vs ds) : ∀ n : Nat, DtAll K G (List.replicate n vs).flatten (List.replicate n ds).flatten
  | 0 => .nil
  | n + 1 => by
    rw [List.replicate_succ, List.replicate_succ, List.flatten_cons, List.flatten_cons]
    exact dpa_app h (dpa_reps h n)
theorem e_repL {n : Int} (ha : E X Γ a (.list ds)) (hb : E X Γ b (.int n)) (h1 : -1000000 ≤ n) (h2 : n ≤ 1000000) (hl : ds.length * n.toNat ≤ 100000) : E X Γ (.BinOp a .Mult b pos) (.list (List.replicate n.toNat ds).flatten) := e_bin op_rep ha hb fun G H v u e g1 g2 Q hQ => by
  cases g1 with
  | lst hs ha =>
    cases g2
    refine ⟨_, n, _, rfl, rfl, e _ _ hs, by omega, by omega, sz_of (by rw [dpa_len ha]; exact hl), fun p hp => hQ _ _ _ (Gr.new e hp) (.lst upd_same (dp_exs (Gr.new e hp).gg _ _ (dpa_reps ha _)))⟩

/-! ### argument lists, displays -/
theorem as_nil : As X Γ [] [] := as_of pa_nil evs_nil
theorem as_cons (ha : E X Γ e d) (hr : As X Γ es ds) (hs : starEach (e :: es) X.env = (false, eval e X.env) :: starEach es X.env := by rfl) : As X Γ (e :: es) (d :: ds) := as_of (pa_cons peS paS hs) (evs_cons ha hr)
theorem as_star {xs : List PyData} {p : Pos} (ha : E X Γ e x) (hx : seqOf x = some xs) (hr : As X Γ es ds) (hs : starEach (.Starred e p :: es) X.env = (true, eval e X.env) :: starEach es X.env := by rfl) : As X Γ (.Starred e p :: es) (xs ++ ds) :=
  as_of (StX.pa_star peS paS hs) fun G0 H0 σ G H hA Q hQ => ha G0 H0 σ G H hA _ fun v G1 H1 g1 d1 => by
    cases d1 with
    | lst h1 h2 =>
      simp [seqOf, tabD] at hx
      subst hx
      exact ⟨_, _, rfl, .inr (sq_of (g1.gh _ _ h1)), hr G0 H0 σ G1 H1 (hA.grow g1) _ fun vs G2 H2 g2 d2 => hQ _ G2 H2 (g1.trans g2) (dpa_app (dp_exs g2.gg _ _ h2) d2)⟩
    | tup h1 h2 =>
      simp [seqOf, tabD] at hx
      subst hx
      exact ⟨_, _, rfl, .inl (ex_t g1.gh h1), hr G0 H0 σ G1 H1 (hA.grow g1) _ fun vs G2 H2 g2 d2 => hQ _ G2 H2 (g1.trans g2) (dpa_app (dp_exs g2.gg _ _ h2) d2)⟩
    | _ => simp [seqOf, tabD] at hx
theorem e_list (h : As X Γ es ds) (hl : ds.length ≤ 100000) : E X Γ (.List es pos) (.list ds) := e_of (pe_lst paS) (evd_lst h hl)
theorem e_tup {x1} (h : As X Γ es ds) (hl : ds.length ≤ 100000) : E X Γ (.Tuple es x1 pos) (.tuple ds) := e_of (pe_tup paS) (evd_tup h hl)

/-! ### calls -/
/-- a def's promise: of these data it makes that -/
def SpD (K : PySem.W.Frag) (dom : List PyData → PyData → Prop) : Sp := fun vs H Q _ => ∃ G ds r, Ex G H ∧ DtAll K G vs ds ∧ dom ds r ∧ ∀ v G' H', Gr G H G' H' → Dt K G' v r → Q v H'
structure FnF (P : Program) (w : World) (K : PySem.W.Frag) (mg : Str → Option Value) (base : Heap) (x : Str) (j : Nat) (dom : List PyData → PyData → Prop) : Prop where
  ex : ∃ f fd ps, mg x = some (.ref f) ∧ PySem.W.keepIn K (.ref f) = true ∧ Binds K fd ps [] ∧ FnOk P w K mg base CX0 j f fd ps (SpD K dom)
theorem e_call (F : XF X P w K mg base N sc k) {x : Str} {j : Nat} {dom : List PyData → PyData → Prop} (f : FnF P w K mg base x j dom) (hj : j ≤ k) (hg : glB sc x = true) (ha : As X Γ (e :: es) ds) (hd : dom ds z)
    (hdb : (x == ("__debug__" : Str)) = false := by decide) (he : starEach (e :: es) X.env = (false, eval e X.env) :: starEach es X.env := by rfl) (hpl : (backTo pos (starEach es X.env)).any (·.1) = false := by rfl) : E X Γ (.Call (.Name x p) (e :: es) [] pos) z := by
  obtain ⟨fa, fd, ps, h1, h2, h3, h4⟩ := f.ex
  have hg' := F.gl hg
  have hr := F.room
  obtain ⟨eP, ew, eK, em, eb, eN, es', hc, _, _, _⟩ := F
  subst eP ew eK em eb
  refine e_of (pe_call (h4.mono hj) hr hg' h1 h2 h3 .nil pass0 paS hdb he hpl) fun G0 H0 σ G H hA Q hQ => ha G0 H0 σ G H hA _ fun vs G1 H1 g1 d1 => ?_
  rw [List.append_nil]
  exact ⟨G1, ds, z, g1.gh, d1, hd, fun v G2 H2 g2 d2 => hQ v G2 H2 (g1.trans g2) d2⟩
theorem e_call0 (F : XF X P w K mg base N sc k) {x : Str} {j : Nat} {dom : List PyData → PyData → Prop} (f : FnF P w K mg base x j dom) (hj : j ≤ k) (hg : glB sc x = true) (hd : dom [] z)
    (hdb : (x == ("__debug__" : Str)) = false := by decide) : E X Γ (.Call (.Name x p) [] [] pos) z := by
  obtain ⟨fa, fd, ps, h1, h2, h3, h4⟩ := f.ex
  have hg' := F.gl hg
  have hr := F.room
  obtain ⟨eP, ew, eK, em, eb, eN, es', hc, _, _, _⟩ := F
  subst eP ew eK em eb
  refine e_of (pe_call0 (h4.mono hj) hr hg' h1 h2 h3 .nil pass0 hdb) fun G0 H0 σ G H hA Q hQ => ?_
  exact ⟨G, [], z, hA.gr.gh, .nil, hd, fun v G2 H2 g2 d2 => hQ v G2 H2 g2 d2⟩
/-- a built-in function, a built-in class -/
theorem e_blt (F : XF X P w K mg base N sc k) {x : Str} {id : String} {r : List V → Hp → VK → Prop} (hc : CallR X (.builtin id) r) (cd : CD X.K r ds z) (hm : mg x = none) (hg : glB sc x = true) (hv : bootBuiltins x = some (.builtin id)) (ha : As X Γ (e :: es) ds)
    (hn : x ≠ "__name__" := by decide) (hdb : (x == ("__debug__" : Str)) = false := by decide) (he : starEach (e :: es) X.env = (false, eval e X.env) :: starEach es X.env := by rfl) (hpl : (backTo pos (starEach es X.env)).any (·.1) = false := by rfl) : E X Γ (.Call (.Name x p) (e :: es) [] pos) z :=
  e_of (pe_callB hc (F.gl hg) (F.none hm) hv paS hn hdb he hpl) (evd_call ha cd)
theorem e_bty (F : XF X P w K mg base N sc k) {x : Str} {ty : String} {r : List V → Hp → VK → Prop} (hc : CallR X (.type ty) r) (cd : CD X.K r ds z) (hm : mg x = none) (hg : glB sc x = true) (hv : bootBuiltins x = some (.type ty)) (ha : As X Γ (e :: es) ds)
    (hn : x ≠ "__name__" := by decide) (hdb : (x == ("__debug__" : Str)) = false := by decide) (he : starEach (e :: es) X.env = (false, eval e X.env) :: starEach es X.env := by rfl) (hpl : (backTo pos (starEach es X.env)).any (·.1) = false := by rfl) : E X Γ (.Call (.Name x p) (e :: es) [] pos) z :=
  e_of (pe_callTy hc (F.gl hg) (F.none hm) hv paS hn hdb he hpl) (evd_call ha cd)
end
end Z
set_option Elab.async false
set_option linter.all false
set_option maxRecDepth 100000
set_option maxHeartbeats 2000000
/-! Built-ins; comprehensions. -/
namespace Z
open PySem PySem.Spec PyProof.Rows L2 Evl
section
variable {X : Cx} {P : Program} {w : World} {K : PySem.W.Frag} {mg : Str → Option Value} {base : Heap} {N : List Str} {sc : Scope} {k : Nat}
variable {Γ : List Sl} {e a b c : Expr} {es rest : List Expr} {d x y z : PyData} {ds : List PyData} {pos p : Pos} {u v : Bool}

/-! ### len, int, abs, tuple, list, all, min, max, sorted -/
inductive LenD : PyData → Nat → Prop
  | list (ds : List PyData) : LenD (.list ds) ds.length
  | tuple (ds : List PyData) : LenD (.tuple ds) ds.length
  | scr (ns : List Int) : LenD (.dict (ns.map fun n => (.int n, .none))) ns.length
theorem cd_len {n : Nat} (h : LenD x n) : CD K (fun xs H Q => ∃ p ys, xs = [.ref p] ∧ (SqL K H p ys ∨ SqT K H p ys) ∧ Q (.int ys.length) H) [x] (.int n) := fun G H vs e h1 Q hQ => by
  cases h1 with
  | cons h2 h3 =>
    cases h3
    cases h with
    | list ds =>
      cases h2 with
      | lst hs ha => exact ⟨_, _, rfl, .inl (ex_l e (sq_of hs)), by rw [dpa_len ha]; exact hQ _ G H (Gr.refl e) (.int _)⟩
    | tuple ds =>
      cases h2 with
      | tup hs ha => exact ⟨_, _, rfl, .inr (ex_t e hs), by rw [dpa_len ha]; exact hQ _ G H (Gr.refl e) (.int _)⟩
    | scr ns =>
      generalize hk : PyData.dict (ns.map fun n => (PyData.int n, PyData.none)) = dd at h2
      cases h2 with
      | @scr a ms hs =>
        have e1 : ns.length = ms.length := by
          injection hk with hk
          have e2 := congrArg List.length hk
          simpa using e2
        refine ⟨_, _, rfl, .inl (ex_l e hs), ?_⟩
        rw [List.length_map, ← e1]
        exact hQ _ G H (Gr.refl e) (.int _)
      | tab => 
        injection hk with hk
        cases ns with
        | nil => cases hk
        | cons n ns => simp at hk
      | _ => cases hk
theorem e_len (F : XF X P w K mg base N sc k) (bn : BN mg) {n : Nat} (ha : E X Γ a x) (h : LenD x n) (hg : glB sc "len" = true) (he : starEach [a] X.env = [(false, eval a X.env)] := by rfl) : E X Γ (.Call (.Name "len" p) [a] [] pos) (.int n) :=
  e_blt F call_len_seq (cd_len h) bn.len hg PySem.boot_len (as_cons ha as_nil he) (he := he)
theorem e_lenL (F : XF X P w K mg base N sc k) (bn : BN mg) (ha : E X Γ a (.list ds)) (hg : glB sc "len" = true) (he : starEach [a] X.env = [(false, eval a X.env)] := by rfl) : E X Γ (.Call (.Name "len" p) [a] [] pos) (.int ds.length) := e_len F bn ha (.list ds) hg he
theorem e_lenT (F : XF X P w K mg base N sc k) (bn : BN mg) (ha : E X Γ a (.tuple ds)) (hg : glB sc "len" = true) (he : starEach [a] X.env = [(false, eval a X.env)] := by rfl) : E X Γ (.Call (.Name "len" p) [a] [] pos) (.int ds.length) := e_len F bn ha (.tuple ds) hg he
theorem e_int1 (F : XF X P w K mg base N sc k) (bn : BN mg) {i : Int} (ha : E X Γ a (.int i)) (hg : glB sc "int" = true) (he : starEach [a] X.env = [(false, eval a X.env)] := by rfl) : E X Γ (.Call (.Name "int" p) [a] [] pos) (.int i) :=
  e_bty F call_int1 (fun G H vs e h1 Q hQ => by
    cases h1 with
    | cons h2 h3 =>
      cases h3
      cases h2
      exact .inl ⟨i, rfl, hQ _ G H (Gr.refl e) (.int _)⟩) bn.int hg (by decide +kernel) (as_cons ha as_nil he) (he := he)
theorem e_abs (F : XF X P w K mg base N sc k) (bn : BN mg) {i : Int} (ha : E X Γ a (.int i)) (hg : glB sc "abs" = true) (he : starEach [a] X.env = [(false, eval a X.env)] := by rfl) : E X Γ (.Call (.Name "abs" p) [a] [] pos) (.int (if i < 0 then -i else i)) :=
  e_blt F call_abs (fun G H vs e h1 Q hQ => by
    cases h1 with
    | cons h2 h3 =>
      cases h3
      cases h2
      exact ⟨i, rfl, hQ _ G H (Gr.refl e) (.int _)⟩) bn.abs hg (by decide +kernel) (as_cons ha as_nil he) (he := he)
theorem e_max2 (F : XF X P w K mg base N sc k) (bn : BN mg) {i j : Int} (ha : E X Γ a (.int i)) (hb : E X Γ b (.int j)) (hg : glB sc "max" = true) (he : starEach [a, b] X.env = (false, eval a X.env) :: starEach [b] X.env := by rfl) (he2 : starEach [b] X.env = [(false, eval b X.env)] := by rfl) (hpl : (backTo pos (starEach [b] X.env)).any (·.1) = false := by rfl) :
    E X Γ (.Call (.Name "max" p) [a, b] [] pos) (.int (if j > i then j else i)) :=
  e_blt F (call_max2 F.calm) (fun G H vs e h1 Q hQ => by
    cases h1 with
    | cons h2 h3 =>
      cases h3 with
      | cons h3 h4 =>
        cases h4
        cases h2
        cases h3
        exact ⟨i, j, rfl, hQ _ G H (Gr.refl e) (.int _)⟩) bn.max hg (by decide +kernel) (as_cons ha (as_cons hb as_nil he2) he) (he := he) (hpl := hpl)
theorem e_min2 (F : XF X P w K mg base N sc k) (bn : BN mg) {i j : Int} (ha : E X Γ a (.int i)) (hb : E X Γ b (.int j)) (hg : glB sc "min" = true) (he : starEach [a, b] X.env = (false, eval a X.env) :: starEach [b] X.env := by rfl) (he2 : starEach [b] X.env = [(false, eval b X.env)] := by rfl) (hpl : (backTo pos (starEach [b] X.env)).any (·.1) = false := by rfl) :
    E X Γ (.Call (.Name "min" p) [a, b] [] pos) (.int (if j < i then j else i)) :=
  e_blt F (call_min2 F.calm) (fun G H vs e h1 Q hQ => by
    cases h1 with
    | cons h2 h3 =>
      cases h3 with
      | cons h3 h4 =>
        cases h4
        cases h2
        cases h3
        exact ⟨i, j, rfl, hQ _ G H (Gr.refl e) (.int _)⟩) bn.min hg (by decide +kernel) (as_cons ha (as_cons hb as_nil he2) he) (he := he) (hpl := hpl)
theorem e_tupleL (F : XF X P w K mg base N sc k) (bn : BN mg) (ha : E X Γ a (.list ds)) (hg : glB sc "tuple" = true) (he : starEach [a] X.env = [(false, eval a X.env)] := by rfl) : E X Γ (.Call (.Name "tuple" p) [a] [] pos) (.tuple ds) :=
  e_bty F call_tuple_of (fun G H vs e h1 Q hQ => by
    cases h1 with
    | cons h2 h3 =>
      cases h3
      cases h2 with
      | lst hs ha => exact ⟨_, _, rfl, .inl ⟨ex_l e (sq_of hs), fun l hl => hQ _ _ _ (Gr.new e hl) (.tup (st_of upd_same) (dp_exs (Gr.new e hl).gg _ _ ha))⟩⟩) bn.tuple hg (by decide +kernel) (as_cons ha as_nil he) (he := he)
theorem e_listT (F : XF X P w K mg base N sc k) (bn : BN mg) (ha : E X Γ a (.tuple ds)) (hg : glB sc "list" = true) (he : starEach [a] X.env = [(false, eval a X.env)] := by rfl) : E X Γ (.Call (.Name "list" p) [a] [] pos) (.list ds) :=
  e_bty F call_list_of (fun G H vs e h1 Q hQ => by
    cases h1 with
    | cons h2 h3 =>
      cases h3
      cases h2 with
      | tup hs ha => exact ⟨_, _, rfl, .inr (ex_t e hs), fun l hl => hQ _ _ _ (Gr.new e hl) (.lst upd_same (dp_exs (Gr.new e hl).gg _ _ ha))⟩) bn.list hg (by decide +kernel) (as_cons ha as_nil he) (he := he)
theorem dt_bools {G : Hp} : ∀ {bs : List Bool} {vs : List V}, DtAll K G vs (bs.map .bool) → vs = bs.map V.bl
  | [], _, h => by cases h; rfl
  | b :: bs, _, h => by
    cases h with
    | cons h1 h2 =>
      cases h1
      rw [dt_bools h2]
      rfl
theorem dt_ints {G : Hp} : ∀ {bs : List Int} {vs : List V}, DtAll K G vs (bs.map .int) → vs = bs.map V.int
  | [], _, h => by cases h; rfl
  | b :: bs, _, h => by
    cases h with
    | cons h1 h2 =>
      cases h1
      rw [dt_ints h2]
      rfl
theorem dt_intsOf {G : Hp} : ∀ (bs : List Int), DtAll K G (bs.map V.int) (bs.map .int)
  | [] => .nil
  | b :: bs => .cons (.int b) (dt_intsOf bs)
theorem e_all (F : XF X P w K mg base N sc k) (bn : BN mg) {bs : List Bool} (ha : E X Γ a (.list (bs.map .bool))) (hg : glB sc "all" = true) (he : starEach [a] X.env = [(false, eval a X.env)] := by rfl) : E X Γ (.Call (.Name "all" p) [a] [] pos) (.bool (bs.all id)) :=
  e_blt F (cr_all F.calm) (fun G H vs e h1 Q hQ => by
    cases h1 with
    | cons h2 h3 =>
      cases h3
      cases h2 with
      | lst hs ha =>
        rw [dt_bools ha] at hs
        exact ⟨_, bs, rfl, ex_l e (sq_of hs), hQ _ G H (Gr.refl e) (.bl _)⟩) bn.all hg (by decide +kernel) (as_cons ha as_nil he) (he := he)
/-- sorted of ints: its one answer -/
theorem e_sorted (F : XF X P w K mg base N sc k) (bn : BN mg) {ns ms : List Int} (ha : E X Γ a (.list (ns.map .int))) (hm : ∀ l : List Int, l.Perm ns → l.Pairwise (· ≤ ·) → l = ms) (hg : glB sc "sorted" = true) (he : starEach [a] X.env = [(false, eval a X.env)] := by rfl) : E X Γ (.Call (.Name "sorted" p) [a] [] pos) (.list (ms.map .int)) :=
  e_blt F cr_sortedI (fun G H vs e h1 Q hQ => by
    cases h1 with
    | cons h2 h3 =>
      cases h3
      cases h2 with
      | lst hs ha =>
        rw [dt_ints ha] at hs
        refine ⟨_, ns, rfl, ex_l e (sq_of hs), fun ns' p hp hs' hn => ?_⟩
        rw [hm ns' hp hs']
        exact hQ _ _ _ (Gr.new e hn) (.lst upd_same (dt_intsOf ms))) bn.sorted hg (by decide +kernel) (as_cons ha as_nil he) (he := he)
/-! ### isinstance -/
def isTy : PyData → String → Option Bool
  | .none, t => kitB "NoneType" t
  | .bool _, t => kitB "bool" t
  | .int _, t => kitB "int" t
  | .str _, t => kitB "str" t
  | .list _, t => kitB "list" t
  | .tuple _, t => kitB "tuple" t
  | .dict ((.none, _) :: _), _ => none
  | .dict _, t => kitB "list" t
theorem sqt_ty {H : Hp} {a : Addr} {xs : List V} (h : SqT K H a xs) : TyX K H (.ref a) (.type "tuple") := by
  rcases h with (h | ⟨o, h⟩) | ⟨o, its, n, h1, h2, _⟩
  · exact .base (.tup h)
  · exact .fTuple h
  · exact .kTuple h1 h2
theorem sql_ty {H : Hp} {a : Addr} {xs : List V} (h : SqL K H a xs) : TyX K H (.ref a) (.type "list") := by
  rcases h with (h | ⟨o, h⟩) | ⟨o, its, n, h1, h2, _⟩
  · exact .base (.lst h)
  · exact .base (.frz h)
  · exact .kList h1 h2
theorem isTy_ok {H : Hp} {x1 : V} {t : String} (h : Dt K H x1 x) (hb : isTy x t = some v) : ∃ u, TyX K H x1 u ∧ PySem.W.kitOne K u (.type t) = some v := by
  cases h with
  | non => exact ⟨_, .base .non, kit_ty hb⟩
  | bl b => exact ⟨_, .base (.bl b), kit_ty hb⟩
  | int b => exact ⟨_, .base (.int b), kit_ty hb⟩
  | str b => exact ⟨_, .base (.str b), kit_ty hb⟩
  | lst hs _ => exact ⟨_, .base (.lst hs), kit_ty hb⟩
  | tup hs _ => exact ⟨_, sqt_ty hs, kit_ty hb⟩
  | @scr a ns hs =>
    have hb' : kitB "list" t = some v := by
      cases ns with
      | nil => exact hb
      | cons n ns => exact hb
    exact ⟨_, sql_ty hs, kit_ty hb'⟩
  | tab => cases hb
theorem e_isi (F : XF X P w K mg base N sc k) (bn : BN mg) {t : Str} {ty : String} {pt : Pos} (ha : E X Γ a x) (hb : isTy x ty = some v) (ht : mg t = none) (hgt : glB sc t = true) (hvt : bootBuiltins t = some (.type ty)) (hg : glB sc "isinstance" = true)
    (hn : t ≠ "__name__" := by decide) (hdb : (t == ("__debug__" : Str)) = false := by decide) (he : starEach [a, .Name t pt] X.env = (false, eval a X.env) :: starEach [.Name t pt] X.env := by rfl) : E X Γ (.Call (.Name "isinstance" p) [a, .Name t pt] [] pos) (.bool v) :=
  e_of (pe_callB call_isi (F.gl hg) (F.none bn.isi) (by decide +kernel) (pa_cons peS (pa_cons (pe_bltn (v := .ty ty) (F.gl hgt) (F.none ht) hvt rfl hn hdb) pa_nil) he) (he := he)) fun G0 H0 σ G H hA Q hQ => ha G0 H0 σ G H hA _ fun x1 G1 H1 g1 d1 => by
    obtain ⟨u, h1, h2⟩ := isTy_ok (dp_ex g1.gh _ _ d1) hb
    exact ⟨x1, .ty ty, u, .type ty, v, rfl, .ty ty, h1, h2, hQ _ G1 H1 g1 (.bl v)⟩
section
variable {pt : Pos}
theorem e_isiInt (F : XF X P w K mg base N sc k) (bn : BN mg) (ha : E X Γ a x) (hb : isTy x "int" = some v) (h1 : glB sc "int" = true) (h2 : glB sc "isinstance" = true) (he : starEach [a, .Name "int" pt] X.env = (false, eval a X.env) :: starEach [.Name "int" pt] X.env := by rfl) : E X Γ (.Call (.Name "isinstance" p) [a, .Name "int" pt] [] pos) (.bool v) :=
  e_isi (ty := "int") F bn ha hb bn.int h1 (by decide +kernel) h2 (he := he)
theorem e_isiBool (F : XF X P w K mg base N sc k) (bn : BN mg) (ha : E X Γ a x) (hb : isTy x "bool" = some v) (h1 : glB sc "bool" = true) (h2 : glB sc "isinstance" = true) (he : starEach [a, .Name "bool" pt] X.env = (false, eval a X.env) :: starEach [.Name "bool" pt] X.env := by rfl) : E X Γ (.Call (.Name "isinstance" p) [a, .Name "bool" pt] [] pos) (.bool v) :=
  e_isi (ty := "bool") F bn ha hb bn.bool h1 (by decide +kernel) h2 (he := he)
theorem e_isiStr (F : XF X P w K mg base N sc k) (bn : BN mg) (ha : E X Γ a x) (hb : isTy x "str" = some v) (h1 : glB sc "str" = true) (h2 : glB sc "isinstance" = true) (he : starEach [a, .Name "str" pt] X.env = (false, eval a X.env) :: starEach [.Name "str" pt] X.env := by rfl) : E X Γ (.Call (.Name "isinstance" p) [a, .Name "str" pt] [] pos) (.bool v) :=
  e_isi (ty := "str") F bn ha hb bn.str h1 (by decide +kernel) h2 (he := he)
theorem e_isiTup (F : XF X P w K mg base N sc k) (bn : BN mg) (ha : E X Γ a x) (hb : isTy x "tuple" = some v) (h1 : glB sc "tuple" = true) (h2 : glB sc "isinstance" = true) (he : starEach [a, .Name "tuple" pt] X.env = (false, eval a X.env) :: starEach [.Name "tuple" pt] X.env := by rfl) : E X Γ (.Call (.Name "isinstance" p) [a, .Name "tuple" pt] [] pos) (.bool v) :=
  e_isi (ty := "tuple") F bn ha hb bn.tuple h1 (by decide +kernel) h2 (he := he)
end
/-! ### list.index -/
theorem e_index (F : XF X P w K mg base N sc k) {apos : Pos} {o : Expr} {j : Nat} (ho : E X Γ o (.list ds)) (ha : E X Γ a x) (n1 : noscrs ds = true) (n2 : noscr x = true) (s1 : SeqAt.shaped (.list ds) = true) (s2 : SeqAt.shaped x = true) (hz : ds[j]? = some z) (hzj : PyData.eqv z x = true) (hno : ∀ (m : Nat) (z' : PyData), m < j → ds[m]? = some z' → PyData.eqv z' x = false)
    (hbase : attributeBase o "index" X.env (eval o X.env) = eval o X.env := by rfl)
    (hfew : ((backTo pos (starEach [a] X.env)).all (fun x => !x.1) && (backToKw pos (keywordEach [] X.env)).all (fun x => x.1.isSome)
      && decide ([a].length + ([] : List Keyword).length + (if ([] : List Keyword).isEmpty then 0 else 1) < 30)) = true := by rfl)
    (hline : (apos.endLine == pos.line) = true := by rfl) (hs : starEach [a] X.env = (false, eval a X.env) :: starEach [] X.env := by rfl) : E X Γ (.Call (.Attribute o "index" apos) [a] [] pos) (.int j) :=
  e_of (pe_bm PySem.F.plainAttrs_list PySem.F.slot_list_index PySem.F.type_list_index (mt_indexD (by have := F.hu; omega)) peS paS hbase hfew hline hs) fun G0 H0 σ G H hA Q hQ => ho G0 H0 σ G H hA _ fun x1 G1 H1 g1 d1 => by
    cases d1 with
    | @lst l xs _ hl hd =>
      refine ⟨.inl ⟨rfl, _, sq_of (g1.gh _ _ hl)⟩, as_cons ha as_nil hs G0 H0 σ G1 H1 (hA.grow g1) _ fun vs G2 H2 g2 d2 => ?_⟩
      cases d2 with
      | cons h2 h3 =>
        cases h3
        exact ⟨l, _, x, ds, j, z, rfl, rfl, .lst (sq_of (g2.hh _ _ (g1.gh _ _ hl))) (dt_dps _ _ n1 (dp_exs (g1.gh.trans g2.hh) _ _ hd)), dt_dp _ _ n2 (dp_ex g2.gh _ _ h2), s1, s2, hz, hzj, hno, hQ _ G2 H2 (g1.trans g2) (.int _)⟩
end
end Z
set_option Elab.async false
set_option linter.all false
set_option maxRecDepth 100000
set_option maxHeartbeats 2000000
/-! Targets, sources, comprehensions. -/
namespace Z
open PySem PySem.Spec PyProof.Rows L2 Evl

/-! ### targets -/
section
variable (K : PySem.W.Frag)
def Tgd (g : TG) (d : PyData) (Γ Γ' : List Sl) (is : List Nat) : Prop := ∀ G0 H0 σ G H v, At K G0 H0 Γ σ G H → Dt K G v d → ∀ Q : L2.St → Hp → Prop,
  (∀ σ', At K G0 H0 Γ' σ' G H → σ'.length = σ.length → (∀ j, j ∉ is → σ'[j]? = σ[j]?) → Q σ' H) → g v σ H Q
def Tgsd (g : TGs) (ds : List PyData) (Γ Γ' : List Sl) (is : List Nat) : Prop := ∀ G0 H0 σ G H vs, At K G0 H0 Γ σ G H → DtAll K G vs ds → ∀ Q : L2.St → Hp → Prop,
  (∀ σ', At K G0 H0 Γ' σ' G H → σ'.length = σ.length → (∀ j, j ∉ is → σ'[j]? = σ[j]?) → Q σ' H) → g vs σ H Q
end
section
variable {K : PySem.W.Frag} {Γ Γ1 Γ2 : List Sl} {d : PyData} {ds : List PyData} {g : TG} {gs : TGs} {is js : List Nat}
theorem tgd_name (i : Nat) : Tgd K (gName i) d Γ (Γ.set i (.dat d)) [i] := fun G0 H0 σ G H v hA hd Q hQ => hQ _ (hA.set hd) (by simp) fun j hj => List.getElem?_set_ne (by simpa using fun e => hj (by simp [e]))
theorem tgsd_nil : Tgsd K gNil [] Γ Γ [] := fun G0 H0 σ G H vs hA hd Q hQ => by
  cases hd
  exact ⟨rfl, hQ σ hA rfl fun _ _ => rfl⟩
theorem tgsd_cons (h1 : Tgd K g d Γ Γ1 is) (h2 : Tgsd K gs ds Γ1 Γ2 js) : Tgsd K (gCons g gs) (d :: ds) Γ Γ2 (is ++ js) := fun G0 H0 σ G H vs hA hd Q hQ => by
  cases hd with
  | cons a b =>
    refine ⟨_, _, rfl, h1 G0 H0 σ G H _ hA a _ fun σ1 hA1 l1 f1 => h2 G0 H0 σ1 G H _ hA1 b _ fun σ2 hA2 l2 f2 => hQ σ2 hA2 (l2.trans l1) fun j hj => ?_⟩
    simp only [List.mem_append, not_or] at hj
    rw [f2 j hj.2, f1 j hj.1]
theorem tgd_tup {n : Nat} (h : Tgsd K gs ds Γ Γ1 is) (hn : ds.length = n) : Tgd K (gTup K n gs) (.tuple ds) Γ Γ1 is := fun G0 H0 σ G H v hA hd Q hQ => by
  cases hd with
  | tup hs ha => exact ⟨_, _, rfl, ex_t hA.gr.gh hs, by rw [dpa_len ha, hn], h G0 H0 σ G H _ hA ha Q hQ⟩
end

/-! ### sources -/
/-- what J yields from G on -/
structure Yields (K : PySem.W.Frag) (J : It) (G : Hp) (ds : List PyData) : Prop where
  go : ∀ i H, i < ds.length → Ex G H → J.go i H
  yld : ∀ i d x G1 H1 H2, ds[i]? = some d → J.yld i H1 x H2 → Ex G G1 → Ex G1 H1 → ∃ G2, Gr G1 H1 G2 H2 ∧ Dt K G2 x d
  stop : ∀ H, Ex G H → J.stop ds.length H
def EvI (K : PySem.W.Frag) (wi : TI) (Γ : List Sl) (ds : List PyData) : Prop := ∀ G0 H0 σ G H, At K G0 H0 Γ σ G H → ∀ R : It → Hp → Prop, (∀ J G' H', Gr G H G' H' → Yields K J G' ds → R J H') → wi σ H R
section
variable {X : Cx} {P : Program} {w : World} {K : PySem.W.Frag} {mg : Str → Option Value} {base : Heap} {N : List Str} {sc : Scope} {k : Nat}
variable {Γ : List Sl} {e a b c : Expr} {es rest : List Expr} {d x y z : PyData} {ds : List PyData} {pos p : Pos} {u v : Bool} {te : TE}
theorem evi_list (h : EvD K te Γ (.list ds)) : EvI K (iList K te) Γ ds := fun G0 H0 σ G H hA R hR => h G0 H0 σ G H hA _ fun v G1 H1 g1 d1 => by
  cases d1 with
  | @lst l xs _ hl hd =>
    refine ⟨l, rfl, ⟨xs, sq_of (g1.gh _ _ hl)⟩, hR _ G1 H1 g1 ⟨fun i H' hi e => ?_, fun i d x G2 H2 H3 hd' hy e e2 => ?_, fun H' e => ⟨xs, sq_of (e _ _ hl), Nat.le_of_eq (dpa_len hd)⟩⟩⟩
    · have hi' : i < xs.length := by rw [dpa_len hd]; exact hi
      exact ⟨xs, xs[i], sq_of (e _ _ hl), by simp [hi']⟩
    · obtain ⟨e3, hy⟩ := hy
      subst e3
      obtain ⟨v', h1, h2⟩ := dpa_get hd hd'
      have e4 := hy xs (sq_of (e2 _ _ (e _ _ hl)))
      rw [e4] at h1
      cases h1
      exact ⟨G2, Gr.refl e2, dp_ex e _ _ h2⟩
theorem evi_tup (h : EvD K te Γ (.tuple ds)) : EvI K (iTup K te) Γ ds := fun G0 H0 σ G H hA R hR => h G0 H0 σ G H hA _ fun v G1 H1 g1 d1 => by
  cases d1 with
  | @tup l xs _ hl hd =>
    refine ⟨l, rfl, ⟨xs, ex_t g1.gh hl⟩, hR _ G1 H1 g1 ⟨fun i H' hi e => ?_, fun i d x G2 H2 H3 hd' hy e e2 => ?_, fun H' e => ⟨xs, ex_t e hl, Nat.le_of_eq (dpa_len hd)⟩⟩⟩
    · have hi' : i < xs.length := by rw [dpa_len hd]; exact hi
      exact ⟨xs, xs[i], ex_t e hl, by simp [hi']⟩
    · obtain ⟨e3, hy⟩ := hy
      subst e3
      obtain ⟨v', h1, h2⟩ := dpa_get hd hd'
      have e4 := hy xs (ex_t e2 (ex_t e hl))
      rw [e4] at h1
      cases h1
      exact ⟨G2, Gr.refl e2, dp_ex e _ _ h2⟩
/-- the ints from lo on, n of them -/
def rngD (lo : Int) (n : Nat) : List PyData := (List.range n).map fun (i : Nat) => .int (lo + (i : Int))
theorem rngD_len (lo : Int) (n : Nat) : (rngD lo n).length = n := by simp [rngD]
theorem yields_rng {G : Hp} {lo : Int} {n : Nat} : Yields K (Itr lo n) G (rngD lo n) := by
  refine ⟨fun i H hi e => by rw [rngD_len] at hi; exact hi, fun i d x G1 H1 H2 hd hy e e2 => ?_, fun H e => by show n ≤ _; rw [rngD_len]; exact Nat.le_refl _⟩
  obtain ⟨e3, e4⟩ := hy
  subst e3 e4
  unfold rngD at hd
  rw [List.getElem?_map] at hd
  cases q : (List.range n)[i]? with
  | none =>
    rw [q] at hd
    cases hd
  | some j =>
    rw [q] at hd
    cases hd
    obtain ⟨hl, e5⟩ := List.getElem?_eq_some_iff.mp q
    rw [List.getElem_range] at e5
    subst e5
    exact ⟨G1, Gr.refl e2, .int _⟩
theorem evi_rng1 {ta : TA} {n : Int} (h : EvS K ta Γ [.int n]) (h1 : -1000000000 ≤ n) (h2 : n ≤ 1000000000) : EvI K (iRng1 ta) Γ (rngD 0 n.toNat) := fun G0 H0 σ G H hA R hR => h G0 H0 σ G H hA _ fun vs G1 H1 g1 d1 => by
  cases d1 with
  | cons h3 h4 =>
    cases h4
    cases h3
    exact ⟨n, rfl, by omega, by omega, hR _ G1 H1 g1 yields_rng⟩
theorem evi_rng2 {ta : TA} {lo n : Int} (h : EvS K ta Γ [.int lo, .int n]) (h1 : -1000000000 ≤ n) (h2 : n ≤ 1000000000) (h3 : -1000000000 ≤ lo) (h4 : lo ≤ 1000000000) : EvI K (iRng2 ta) Γ (rngD lo (n - lo).toNat) := fun G0 H0 σ G H hA R hR => h G0 H0 σ G H hA _ fun vs G1 H1 g1 d1 => by
  cases d1 with
  | cons h5 h6 =>
    cases h6 with
    | cons h6 h7 =>
      cases h7
      cases h5
      cases h6
      exact ⟨lo, n, rfl, by omega, hR _ G1 H1 g1 yields_rng⟩
/-- a source: how it is walked, what it yields -/
structure Src (X : Cx) (Γ : List Sl) (tg iter : Expr) (ds : List PyData) : Prop where
  ex : ∃ wi, PI X tg iter wi ∧ EvI X.K wi Γ ds
variable {tg : Expr}
theorem src_list (h : E X Γ e (.list ds)) : Src X Γ tg e ds := ⟨_, pi_list peS, evi_list h⟩
theorem src_tup (h : E X Γ e (.tuple ds)) : Src X Γ tg e ds := ⟨_, pi_tup peS, evi_tup h⟩
theorem src_rng1 (F : XF X P w K mg base N sc k) (bn : BN mg) {n : Int} (h : E X Γ a (.int n)) (h1 : -1000000000 ≤ n) (h2 : n ≤ 1000000000) (hg : glB sc "range" = true) (hs : starEach [a] X.env = [(false, eval a X.env)] := by rfl) : Src X Γ tg (.Call (.Name "range" p) [a] [] pos) (rngD 0 n.toNat) :=
  ⟨_, pi_range1 (F.gl hg) (F.none bn.range) paS hs, evi_rng1 (as_cons h as_nil hs) h1 h2⟩
theorem src_rng2 (F : XF X P w K mg base N sc k) (bn : BN mg) {lo n : Int} (h : E X Γ a (.int lo)) (h' : E X Γ b (.int n)) (h1 : -1000000000 ≤ n) (h2 : n ≤ 1000000000) (h3 : -1000000000 ≤ lo) (h4 : lo ≤ 1000000000) (hg : glB sc "range" = true)
    (hs : starEach [a, b] X.env = [(false, eval a X.env), (false, eval b X.env)] := by rfl) (hs2 : starEach [b] X.env = [(false, eval b X.env)] := by rfl) : Src X Γ tg (.Call (.Name "range" p) [a, b] [] pos) (rngD lo (n - lo).toNat) :=
  ⟨_, pi_range2 (F.gl hg) (F.none bn.range) paS hs hs2, evi_rng2 (as_cons h (as_cons h' as_nil hs2) (by rw [hs, hs2])) h1 h2 h3 h4⟩
end

/-! ### comprehensions -/
/-- the block's own names forgotten -/
def wipeG (Γ : List Sl) : List Nat → List Sl
  | [] => Γ
  | v :: vs => (wipeG Γ vs).set v .un
section
variable {K : PySem.W.Frag} {G0 H0 G H : Hp} {Γ : List Sl} {σ : L2.St}
theorem At.wipe (a : At K G0 H0 Γ σ G H) : ∀ vs : List Nat, At K G0 H0 (wipeG Γ vs) (L2.wipe σ vs) G H
  | [] => a
  | v :: vs => (At.wipe a vs).forget
theorem wipe_len (σ : L2.St) : ∀ vs : List Nat, (L2.wipe σ vs).length = σ.length := wipe_length σ
theorem wipe_at (σ : L2.St) (j : Nat) : ∀ vs : List Nat, (L2.wipe σ vs)[j]? = if j ∈ vs ∧ j < σ.length then some none else σ[j]?
  | [] => by simp [L2.wipe]
  | v :: vs => by
    show ((L2.wipe σ vs).set v none)[j]? = _
    by_cases e : v = j
    · subst e
      by_cases hv : v < σ.length
      · rw [List.getElem?_set_self (by rw [wipe_len]; exact hv), if_pos ⟨by simp, hv⟩]
      · rw [if_neg (fun z => hv z.2), List.getElem?_eq_none (by simp [wipe_len]; omega), List.getElem?_eq_none (by omega)]
    · rw [List.getElem?_set_ne e, wipe_at σ j vs]
      have e' : ¬ j = v := fun z => e z.symm
      simp [e']
theorem wipe_eq {σ2 : L2.St} {is vs : List Nat} (hl : σ2.length = (L2.wipe σ vs).length) (hj : ∀ j, j ∉ is → σ2[j]? = (L2.wipe σ vs)[j]?) (hi : ∀ j ∈ is, j ∈ vs) : L2.wipe σ2 vs = L2.wipe σ vs := by
  rw [wipe_len] at hl
  apply List.ext_getElem?
  intro j
  rw [wipe_at, wipe_at]
  by_cases h : j ∈ vs ∧ j < σ.length
  · rw [if_pos h, if_pos (by rw [hl]; exact h)]
  · rw [if_neg h, if_neg (by rw [hl]; exact h)]
    by_cases q : j ∈ is
    · have h1 : ¬ j < σ.length := fun z => h ⟨hi j q, z⟩
      rw [List.getElem?_eq_none (by omega), List.getElem?_eq_none (by omega)]
    · rw [hj j q, wipe_at, if_neg h]
theorem gr_mut {G' H' : Hp} {D : Addr} {o : HO} (g : Gr G H G' H') (h : H D = none) (h' : G' D = none) : Gr G H G' (upd H' D o) :=
  ⟨g.gg, fun a u ha => by
    rw [upd_ne (ne_of_none ha h')]
    exact g.gh a u ha, Ex.mut g.hh h, g.fr⟩
/-- a list that was one's own stands still from now on -/
theorem gr_freeze {G' H' : Hp} {D : Addr} {o : HO} (g : Gr G H G' H') (h : H D = none) (h' : G' D = none) (hD : H' D = some o) : Gr G H (upd G' D o) H' :=
  ⟨g.gg.trans (Ex.new h'), fun a u ha => by
    by_cases q : a = D
    · subst q
      rw [upd_same] at ha
      cases ha
      exact hD
    · rw [upd_ne q] at ha
      exact g.gh a u ha, g.hh, fun a u ha ga => by
    rw [upd_ne (ne_of_none ha h)]
    exact g.fr a u ha ga⟩
theorem evd_lc {α : Type} {wi : TI} {g : TG} {tt : TT} {te : TE} {vs is : List Nat} (xs : List α) (enc : α → PyData) (f : α → Bool) (h : α → PyData) (Γ1 : α → List Sl) (hi : EvI K wi Γ (xs.map enc)) (hz : xs.length ≤ 100000) (hv : ∀ j ∈ is, j ∈ vs)
    (hg : ∀ d ∈ xs, Tgd K g (enc d) (wipeG Γ vs) (Γ1 d) is) (ht : ∀ d ∈ xs, EvB K tt (Γ1 d) (f d)) (he : ∀ d ∈ xs, f d = true → EvD K te (Γ1 d) (h d)) : EvD K (tLc wi g tt te vs) Γ (.list ((xs.filter f).map h)) := fun G0 H0 σ G H hA Q hQ =>
  hi G0 H0 σ G H hA _ fun J G1 H1 g1 Y D hD => by
    have hD1 : G1 D = none := fresh_back g1.gh hD
    let Pv : Nat → Hp → Prop := fun i H' => ∃ G' acc, Gr G1 H1 G' H' ∧ G' D = none ∧ H' D = some (.lst acc) ∧ DtAll K G' acc (((xs.take i).filter f).map h)
    have acc_len : ∀ {i : Nat} {G' : Hp} {acc : List V}, DtAll K G' acc (((xs.take i).filter f).map h) → acc.length ≤ 100000 := fun {i G' acc} q => by
      rw [dpa_len q, List.length_map]
      exact Nat.le_trans (List.length_filter_le _ _) (by rw [List.length_take]; omega)
    refine ⟨fun i m H' => m = xs.length - i ∧ i ≤ xs.length ∧ Pv i H', ⟨xs.length, by simp, Nat.zero_le _, G1, [], gr_mut (Gr.refl g1.gh) hD hD1, hD1, upd_same, .nil⟩, ?_⟩
    rintro i m H' ⟨rfl, hil, G', acc, gr, gD, hD', hacc⟩
    by_cases hlt : i < xs.length
    · refine .inr ⟨Y.go i H' (by simpa using hlt) (gr.gg.trans gr.gh), Pv (i + 1), fun H2 p => ⟨xs.length - (i + 1), by omega, rfl, hlt, p⟩, fun x H2 hy => ?_⟩
      have hd : xs[i]? = some xs[i] := List.getElem?_eq_getElem hlt
      have hm : xs[i] ∈ xs := List.getElem_mem hlt
      obtain ⟨G2, g2, hx⟩ := Y.yld i (enc xs[i]) x G' H' H2 (by rw [List.getElem?_map, hd]; rfl) hy gr.gg gr.gh
      have hA2 : At K G0 H0 (wipeG Γ vs) (L2.wipe σ vs) G2 H2 := (((hA.grow g1).grow gr).grow g2).wipe vs
      refine hg _ hm G0 H0 _ G2 H2 x hA2 hx _ fun σ2 hA3 l3 f3 => ⟨wipe_eq l3 f3 hv, ht _ hm G0 H0 σ2 G2 H2 hA3 _ fun G3 H3 g3 => ?_⟩
      have tk : xs.take (i + 1) = xs.take i ++ [xs[i]] := by rw [List.take_add_one, hd]; rfl
      cases hf : f xs[i] with
      | true =>
        rw [if_pos rfl]
        refine he _ hm hf G0 H0 σ2 G3 H3 (hA3.grow g3) _ fun y G4 H4 g4 d4 => ?_
        have g24 : Gr G' H' G4 H4 := (g2.trans g3).trans g4
        have gD4 : G4 D = none := g24.fr D _ hD' gD
        refine ⟨acc, g24.hh _ _ hD', sz_lt (Nat.lt_of_le_of_lt (by
          rw [dpa_len hacc, List.length_map]
          exact Nat.le_trans (List.length_filter_le _ _) (by rw [List.length_take]; exact Nat.min_le_left _ _)) (Nat.lt_of_lt_of_le hlt hz)), G4, acc ++ [y], gr_mut (gr.trans g24) hD gD4, gD4, upd_same, ?_⟩
        rw [tk, List.filter_append, List.map_append, List.filter_cons, if_pos hf]
        exact dpa_app (dp_exs g24.gg _ _ hacc) (.cons d4 .nil)
      | false =>
        rw [if_neg Bool.false_ne_true]
        have g23 : Gr G' H' G3 H3 := g2.trans g3
        refine ⟨G3, acc, gr.trans g23, g23.fr D _ hD' gD, g23.hh _ _ hD', ?_⟩
        rw [tk, List.filter_append, List.map_append, List.filter_cons, if_neg (by rw [hf]; exact Bool.false_ne_true)]
        have e : DtAll K G3 acc (((xs.take i).filter f).map h) := dp_exs g23.gg _ _ hacc
        simpa using e
    · have e : i = xs.length := by omega
      subst e
      refine .inl ⟨by have := Y.stop H' (gr.gg.trans gr.gh); rwa [List.length_map] at this, ?_⟩
      rw [List.take_length] at hacc
      exact hQ _ _ H' (g1.trans (gr_freeze gr hD gD hD')) (.lst upd_same (dp_exs (Ex.new gD) _ _ hacc))
end
end Z
set_option Elab.async false
set_option linter.all false
set_option maxRecDepth 100000
set_option maxHeartbeats 2000000
/-! Comprehensions over the text; two clauses. -/
namespace Z
open PySem PySem.Spec PyProof.Rows L2 Evl
section
variable {X : Cx} {P : Program} {w : World} {K : PySem.W.Frag} {mg : Str → Option Value} {base : Heap} {N : List Str} {sc scope : Scope} {k : Nat}
variable {Γ : List Sl} {e elt iter iter1 tg tg1 : Expr} {es ifs ifs1 : List Expr} {d x y z : PyData} {ds : List PyData} {pos p : Pos} {own : List (Str × Nat)} {is js : List Nat} {g g1 : TG}
/-- what a block's context knows -/
theorem XF.blk (F : XF X P w K mg base N sc k) (s : Shared) (H : Hp) (C : Addr) (cl : List (Str × Addr)) (fp : List Addr) : XF (X.blk s H scope (compEnvC scope cl C X.env) fp) P w K mg base N (relS scope sc) k := by
  refine ⟨F.hP, F.hw, F.hK, F.hmg, F.hbase, F.hN, ?_, F.calm, F.room, rfl, F.nd⟩
  rw [← F.hsc]
  rfl
/-- all blocks at once -/
def teB (X : Cx) (scope : Scope) (e : Expr) : TE := fun σ H Q => ∀ s H0 C cl fp, teS (X.blk s H0 scope (compEnvC scope cl C X.env) fp) e σ H Q
def ttB (X : Cx) (scope : Scope) (ifs : List Expr) : TT := fun σ H Q => ∀ s H0 C cl fp, ∀ pins s', Inv (X.blk s H0 scope (compEnvC scope cl C X.env) fp) pins σ H s' →
  wpAny (model X.prog X.w) X.A (forIn ifs true fun c r => if r = true then do let ok ← isTrue c (compEnvC scope cl C X.env) (eval c (compEnvC scope cl C X.env)); pure (ForInStep.yield ok) else pure (ForInStep.yield r)) (TP (X.blk s H0 scope (compEnvC scope cl C X.env) fp) pins σ Q) (fun _ _ => False) s'
theorem peB (s : Shared) (H : Hp) (C : Addr) (cl : List (Str × Addr)) (fp : List Addr) : PE (X.blk s H scope (compEnvC scope cl C X.env) fp) e (teB X scope e) := ⟨fun pins s' _ _ _ I h => h s H C cl fp pins s' I⟩
theorem ptB (s : Shared) (H : Hp) (C : Addr) (cl : List (Str × Addr)) (fp : List Addr) : PTs (X.blk s H scope (compEnvC scope cl C X.env) fp) ifs (ttB X scope ifs) := ⟨fun pins s' _ _ _ I h => h s H C cl fp pins s' I⟩
/-- a clause's tests -/
inductive Tis (X : Cx) (Γ : List Sl) : List Expr → Bool → Prop
  | nil : Tis X Γ [] true
  | one {c : Expr} {v : Bool} : T X Γ c v → Tis X Γ [c] v
theorem evb_B {v : Bool} (h : ∀ s H C cl fp, Tis (X.blk s H scope (compEnvC scope cl C X.env) fp) Γ ifs v) : EvB X.K (ttB X scope ifs) Γ v := fun G0 H0 σ G H hA Q hQ s H1 C cl fp pins s' I => by
  cases h s H1 C cl fp with
  | nil => exact pts_nil.run pins s' σ H Q I (hQ G H (Gr.refl hA.gr.gh))
  | one t => exact (pts_one ptS).run pins s' σ H Q I (t G0 H0 σ G H hA Q hQ)
theorem evd_B (h : ∀ s H C cl fp, E (X.blk s H scope (compEnvC scope cl C X.env) fp) Γ e d) : EvD X.K (teB X scope e) Γ d := fun G0 H0 σ G H hA Q hQ s H1 C cl fp => h s H1 C cl fp G0 H0 σ G H hA Q hQ
/-- a block's pieces -/
structure BlkD (X : Cx) (N : List Str) (sc scope : Scope) (own : List (Str × Nat)) (tg : Expr) (g : TG) : Prop where
  ok : blkC N sc scope own = true
theorem blk_ok (F : XF X P w K mg base N sc k) (h : blkC N sc scope own = true) : BlkOk X.N X.env.scope scope own := by
  rw [F.hN, F.hsc]
  exact blkOk_by h
theorem evd_lcX {α : Type} (F : XF X P w K mg base N sc k) {wi : TI} (xs : List α) (enc : α → PyData) (f : α → Bool) (h : α → PyData) (Γ1 : α → List Sl) (hi : EvI X.K wi Γ (xs.map enc)) (hz : xs.length ≤ 100000) (hv : ∀ j ∈ is, j ∈ own.map (·.2))
    (hg : ∀ d ∈ xs, Tgd X.K g (enc d) (wipeG Γ (own.map (·.2))) (Γ1 d) is) (ht : ∀ Y, XF Y P w K mg base N (relS scope sc) k → ∀ d ∈ xs, Tis Y (Γ1 d) ifs (f d)) (he : ∀ Y, XF Y P w K mg base N (relS scope sc) k → ∀ d ∈ xs, f d = true → E Y (Γ1 d) elt (h d)) :
    EvD X.K (tLc wi g (ttB X scope ifs) (teB X scope elt) (own.map (·.2))) Γ (.list ((xs.filter f).map h)) :=
  evd_lc xs enc f h Γ1 hi hz hv hg (fun d hd => evb_B fun s H C cl fp => ht _ (F.blk s H C cl fp) d hd) (fun d hd hf => evd_B fun s H C cl fp => he _ (F.blk s H C cl fp) d hd hf)
/-- [elt for tg in iter if ..] -/
theorem e_lc {α : Type} (F : XF X P w K mg base N sc k) (own : List (Str × Nat)) (ok : blkC N sc scope own = true) (xs : List α) (enc : α → PyData) (hs : Src X Γ tg iter (xs.map enc)) (hz : xs.length ≤ 100000) (f : α → Bool) (h : α → PyData) (Γ1 : α → List Sl) (hv : ∀ j ∈ is, j ∈ own.map (·.2))
    (pg : ∀ Y, XF Y P w K mg base N (relS scope sc) k → PG Y tg g) (hg : ∀ d ∈ xs, Tgd K g (enc d) (wipeG Γ (own.map (·.2))) (Γ1 d) is)
    (ht : ∀ Y, XF Y P w K mg base N (relS scope sc) k → ∀ d ∈ xs, Tis Y (Γ1 d) ifs (f d)) (he : ∀ Y, XF Y P w K mg base N (relS scope sc) k → ∀ d ∈ xs, f d = true → E Y (Γ1 d) elt (h d))
    (hfs : ∀ x, foldedSetIterable iter X.env x = pure x := by intro _; rfl) : E X Γ (.ListComp elt [⟨tg, iter, ifs, 0⟩] scope pos) (.list ((xs.filter f).map h)) := by
  obtain ⟨wi, pi, ev⟩ := hs
  exact e_of (pe_lc F.calm (by rw [F.hN]; exact F.nd) pi (blk_ok F ok) (fun s H C cl fp => pg _ (F.blk s H C cl fp)) ptB peB hfs) (evd_lcX F xs enc f h Γ1 ev hz hv (by rw [F.hK]; exact hg) ht he)

/-! #### two clauses -/
theorem At.mut {G0 H0 G H : Hp} {σ : L2.St} {D : Addr} {o : HO} (a : At K G0 H0 Γ σ G H) (nob : ∀ (i : Nat) (o : Ob), Γ[i]? ≠ some (.ob o)) (h0 : H0 D = none) (hg : G D = none) : At K G0 H0 Γ σ G (upd H D o) :=
  ⟨gr_mut a.gr h0 hg, a.len, fun i s hs => by
    cases s with
    | un => trivial
    | dat d => exact a.sl i _ hs
    | ob o => exact absurd hs (nob i o), a.ap⟩
theorem evd_lc2 {α β : Type} {wi wi1 : TI} {tt tt1 : TT} {te : TE} {vs vs1 : List Nat} (xs : List α) (enc : α → PyData) (es1 : α → List β) (enc1 : β → PyData) (h : α → β → PyData) (Γ1 : α → List Sl) (Γ2 : α → β → List Sl) (hi : EvI K wi Γ (xs.map enc)) (hz : ∀ d ∈ xs, (es1 d).length ≤ 300) (hz0 : xs.length ≤ 300)
    (hv : ∀ j ∈ is, j ∈ vs) (hv1 : ∀ j ∈ js, j ∈ vs1) (hob : ∀ d ∈ xs, ∀ (i : Nat) (o : Ob), (Γ1 d)[i]? ≠ some (.ob o))
    (hg : ∀ d ∈ xs, Tgd K g (enc d) (wipeG Γ vs) (Γ1 d) is) (ht : ∀ d ∈ xs, EvB K tt (Γ1 d) true) (hi1 : ∀ d ∈ xs, EvI K wi1 (Γ1 d) ((es1 d).map enc1))
    (hg1 : ∀ d ∈ xs, ∀ e ∈ es1 d, Tgd K g1 (enc1 e) (wipeG (Γ1 d) vs1) (Γ2 d e) js) (ht1 : ∀ d ∈ xs, ∀ e ∈ es1 d, EvB K tt1 (Γ2 d e) true)
    (he : ∀ d ∈ xs, ∀ e ∈ es1 d, EvD K te (Γ2 d e) (h d e)) : EvD K (tLc2 wi g tt wi1 g1 tt1 te vs vs1) Γ (.list (xs.flatMap fun d => (es1 d).map (h d))) := fun G0 H0 σ G H hA Q hQ =>
  hi G0 H0 σ G H hA _ fun J G1 H1 gr1 Y D hD => by
    have hD1 : G1 D = none := fresh_back gr1.gh hD
    let Pv : List PyData → Hp → Prop := fun out H' => ∃ G' acc, Gr G1 H1 G' H' ∧ G' D = none ∧ H' D = some (.lst acc) ∧ DtAll K G' acc out
    let out : Nat → List PyData := fun i => (xs.take i).flatMap fun d => (es1 d).map (h d)
    have len_out : ∀ i, i ≤ xs.length → (out i).length ≤ 300 * i := fun i => by
      induction i with
      | zero => intro _; simp [out]
      | succ i ih =>
        intro hi'
        have hd : xs[i]? = some xs[i] := List.getElem?_eq_getElem (by omega)
        have h1 := ih (by omega)
        have h2 := hz xs[i] (List.getElem_mem _)
        have : out (i + 1) = out i ++ (es1 xs[i]).map (h xs[i]) := by
          simp only [out]
          rw [List.take_add_one, hd, Option.toList_some, List.flatMap_append, List.flatMap_cons, List.flatMap_nil, List.append_nil]
        rw [this, List.length_append, List.length_map]
        omega
    refine ⟨fun i m H' => m = xs.length - i ∧ i ≤ xs.length ∧ Pv (out i) H', ⟨xs.length, by simp, Nat.zero_le _, G1, [], gr_mut (Gr.refl gr1.gh) hD hD1, hD1, upd_same, .nil⟩, ?_⟩
    rintro i m H' ⟨rfl, hil, G', acc, gr, gD, hD', hacc⟩
    by_cases hlt : i < xs.length
    · refine .inr ⟨Y.go i H' (by simpa using hlt) (gr.gg.trans gr.gh), Pv (out (i + 1)), fun H2 p => ⟨xs.length - (i + 1), by omega, rfl, hlt, p⟩, fun x H2 hy => ?_⟩
      have hd : xs[i]? = some xs[i] := List.getElem?_eq_getElem hlt
      have hm : xs[i] ∈ xs := List.getElem_mem hlt
      obtain ⟨G2, g2, hx⟩ := Y.yld i (enc xs[i]) x G' H' H2 (by rw [List.getElem?_map, hd]; rfl) hy gr.gg gr.gh
      have hA2 : At K G0 H0 (wipeG Γ vs) (L2.wipe σ vs) G2 H2 := (((hA.grow gr1).grow gr).grow g2).wipe vs
      refine hg _ hm G0 H0 _ G2 H2 x hA2 hx _ fun σ2 hA3 l3 f3 => ⟨wipe_eq l3 f3 hv, ht _ hm G0 H0 σ2 G2 H2 hA3 _ fun G3 H3 g3 => ?_⟩
      rw [if_pos rfl]
      have nx : out (i + 1) = out i ++ (es1 xs[i]).map (h xs[i]) := by
        simp only [out]
        rw [List.take_add_one, hd, Option.toList_some, List.flatMap_append, List.flatMap_cons, List.flatMap_nil, List.append_nil]
      refine hi1 _ hm G0 H0 σ2 G3 H3 (hA3.grow g3) _ fun J1 G4 H4 g4 Y1 => ?_
      have g24 : Gr G' H' G4 H4 := (g2.trans g3).trans g4
      have hlo := len_out i hil
      have hle := hz _ hm
      have nob := hob _ hm
      let Iv : Nat → Hp → Prop := fun j H' => ∃ G5 acc, Gr G1 H1 G5 H' ∧ Ex G4 G5 ∧ G5 D = none ∧ H' D = some (.lst acc) ∧ DtAll K G5 acc (out i ++ ((es1 xs[i]).take j).map (h xs[i])) ∧ At K G0 H0 (Γ1 xs[i]) σ2 G5 H'
      refine ⟨fun j k H' => k = (es1 xs[i]).length - j ∧ j ≤ (es1 xs[i]).length ∧ Iv j H', ⟨_, rfl, Nat.zero_le _, G4, acc, gr.trans g24, Ex.refl _, g24.fr D _ hD' gD, g24.hh _ _ hD', by simpa using dp_exs g24.gg _ _ hacc, (hA3.grow g3).grow g4⟩, ?_⟩
      rintro j m1 H5 ⟨rfl, hjl, G5, acc5, gr5, ex5, gD5, hD5, hacc5, hA5⟩
      have hl5 := dpa_len hacc5
      rw [List.length_append, List.length_map, List.length_take] at hl5
      by_cases hjt : j < (es1 xs[i]).length
      · refine .inr ⟨Y1.go j H5 (by simpa using hjt) (ex5.trans gr5.gh), Iv (j + 1), fun H6 p => ⟨_, by omega, rfl, hjt, p⟩, fun x1 H6 hy1 => ?_⟩
        have hd1 : (es1 xs[i])[j]? = some (es1 xs[i])[j] := List.getElem?_eq_getElem hjt
        have hm1 : (es1 xs[i])[j] ∈ es1 xs[i] := List.getElem_mem hjt
        obtain ⟨G6, g6, hx1⟩ := Y1.yld j (enc1 (es1 xs[i])[j]) x1 G5 H5 H6 (by rw [List.getElem?_map, hd1]; rfl) hy1 ex5 gr5.gh
        refine hg1 _ hm _ hm1 G0 H0 _ G6 H6 x1 ((hA5.grow g6).wipe vs1) hx1 _ fun σ3 hA6 l6 f6 => ⟨wipe_eq l6 f6 hv1, ht1 _ hm _ hm1 G0 H0 σ3 G6 H6 hA6 _ fun G7 H7 g7 => ?_⟩
        rw [if_pos rfl]
        refine he _ hm _ hm1 G0 H0 σ3 G7 H7 (hA6.grow g7) _ fun y G8 H8 g8 d8 => ?_
        have g58 : Gr G5 H5 G8 H8 := (g6.trans g7).trans g8
        have gD8 : G8 D = none := g58.fr D _ hD5 gD5
        refine ⟨acc5, g58.hh _ _ hD5, sz_lt (by omega), G8, acc5 ++ [y], gr_mut (gr5.trans g58) hD gD8, ex5.trans g58.gg, gD8, upd_same, ?_, (hA5.grow g58).mut nob (fresh_back (hA.gr.hh.trans gr1.hh) hD) gD8⟩
        rw [List.take_add_one, hd1, List.map_append, ← List.append_assoc]
        exact dpa_app (dp_exs g58.gg _ _ hacc5) (.cons d8 .nil)
      · have e : j = (es1 xs[i]).length := by omega
        subst e
        refine .inl ⟨by have := Y1.stop H5 (ex5.trans gr5.gh); rwa [List.length_map] at this, G5, acc5, gr5, gD5, hD5, ?_⟩
        rw [nx]
        rw [List.take_length] at hacc5
        exact hacc5
    · have e : i = xs.length := by omega
      subst e
      refine .inl ⟨by have := Y.stop H' (gr.gg.trans gr.gh); rwa [List.length_map] at this, ?_⟩
      have e2 : out xs.length = xs.flatMap fun d => (es1 d).map (h d) := by simp [out]
      rw [e2] at hacc
      exact hQ _ _ H' (gr1.trans (gr_freeze gr hD gD hD')) (.lst upd_same (dp_exs (Ex.new gD) _ _ hacc))
/-- [elt for tg in iter for tg1 in iter1] -/
theorem e_lc2 {α β : Type} (F : XF X P w K mg base N sc k) (own : List (Str × Nat)) (vs1 : List Nat) (ok : blkC N sc scope own = true) (xs : List α) (enc : α → PyData) (hs : Src X Γ tg iter (xs.map enc)) (hz0 : xs.length ≤ 300) (es1 : α → List β) (enc1 : β → PyData) (hz : ∀ d ∈ xs, (es1 d).length ≤ 300) (h : α → β → PyData) (Γ1 : α → List Sl) (Γ2 : α → β → List Sl)
    (hv : ∀ j ∈ is, j ∈ own.map (·.2)) (hv1 : ∀ j ∈ js, j ∈ vs1) (hvv : ∀ j ∈ vs1, j ∈ own.map (·.2)) (hob : ∀ d ∈ xs, ∀ (i : Nat) (o : Ob), (Γ1 d)[i]? ≠ some (.ob o))
    (pg : ∀ Y, XF Y P w K mg base N (relS scope sc) k → PG Y tg g) (hg : ∀ d ∈ xs, Tgd K g (enc d) (wipeG Γ (own.map (·.2))) (Γ1 d) is)
    (wi1 : TI) (pi1 : ∀ Y, XF Y P w K mg base N (relS scope sc) k → PI Y tg1 iter1 wi1) (ev1 : ∀ d ∈ xs, EvI K wi1 (Γ1 d) ((es1 d).map enc1))
    (pg1 : ∀ Y, XF Y P w K mg base N (relS scope sc) k → PG Y tg1 g1) (hg1 : ∀ d ∈ xs, ∀ e ∈ es1 d, Tgd K g1 (enc1 e) (wipeG (Γ1 d) vs1) (Γ2 d e) js)
    (he : ∀ Y, XF Y P w K mg base N (relS scope sc) k → ∀ d ∈ xs, ∀ e ∈ es1 d, E Y (Γ2 d e) elt (h d e))
    (hfs : ∀ x, foldedSetIterable iter X.env x = pure x := by intro _; rfl) (hfs1 : ∀ env x, foldedSetIterable iter1 env x = pure x := by intro _ _; rfl) : E X Γ (.ListComp elt [⟨tg, iter, [], 0⟩, ⟨tg1, iter1, [], 0⟩] scope pos) (.list (xs.flatMap fun d => (es1 d).map (h d))) := by
  obtain ⟨wi, pi, ev⟩ := hs
  have hK := F.hK
  refine e_of (pe_lc2 F.calm (by rw [F.hN]; exact F.nd) pi (blk_ok F ok) hvv (fun s H C cl fp => pg _ (F.blk s H C cl fp)) ptB (fun s H C cl fp => pi1 _ (F.blk s H C cl fp)) (fun s H C cl fp => pg1 _ (F.blk s H C cl fp)) ptB peB hfs hfs1) ?_
  refine evd_lc2 xs enc es1 enc1 h Γ1 Γ2 ev hz hz0 hv hv1 hob (by rw [hK]; exact hg) (fun d hd => evb_B fun s H C cl fp => .nil) (by rw [hK]; exact ev1) (by rw [hK]; exact hg1) (fun d hd e he' => evb_B fun s H C cl fp => .nil) (fun d hd e he' => evd_B fun s H C cl fp => he _ (F.blk s H C cl fp) d hd e he')
end
end Z
set_option Elab.async false
set_option linter.all false
set_option maxRecDepth 100000
set_option maxHeartbeats 2000000
/-! Statements; defs. -/
namespace Z
open PySem PySem.Spec PyProof.Rows L2 Evl

structure Kt where
  nx : List Sl → Prop
  rt : PyData → Prop
  bk : List Sl → Prop := fun _ => False
  ct : List Sl → Prop := fun _ => False
structure Meets (K : PySem.W.Frag) (G0 H0 : Hp) (D : Ends) (κ : Kt) : Prop where
  nx : ∀ Γ', κ.nx Γ' → ∀ σ G H, At K G0 H0 Γ' σ G H → D.nx σ H
  rt : ∀ d, κ.rt d → ∀ v G H, Gr G0 H0 G H → Dt K G v d → D.rt v H
  bk : ∀ Γ', κ.bk Γ' → ∀ σ G H, At K G0 H0 Γ' σ G H → D.bk σ H
  ct : ∀ Γ', κ.ct Γ' → ∀ σ G H, At K G0 H0 Γ' σ G H → D.ct σ H
def S (X : Cx) (Γ : List Sl) (st : Stmt) (κ : Kt) : Prop := ∀ G0 H0 D, Meets X.K G0 H0 D κ → ∀ σ G H, At X.K G0 H0 Γ σ G H → tsS X st D σ H
def Ss (X : Cx) (Γ : List Sl) (st : List Stmt) (κ : Kt) : Prop := ∀ G0 H0 D, Meets X.K G0 H0 D κ → ∀ σ G H, At X.K G0 H0 Γ σ G H → tssS X st D σ H
/-- a list of the def's own -/
def oL (K : PySem.W.Frag) (ds : List PyData) : Ob := ⟨fun G _ o => ∃ vs, o = .lst vs ∧ DtAll K G vs ds, fun G G' _ o e ⟨vs, h1, h2⟩ => ⟨vs, h1, dp_exs e _ _ h2⟩⟩
/-- a new list, not known yet to anyone -/
def EvF (K : PySem.W.Frag) (te : TE) (Γ : List Sl) (ds : List PyData) : Prop := ∀ G0 H0 σ G H, At K G0 H0 Γ σ G H → ∀ Q : VK, (∀ l vs G' H', Gr G H G' H' → H l = none → G' l = none → H' l = some (.lst vs) → DtAll K G' vs ds → Q (.ref l) H') → te σ H Q
def Ef (X : Cx) (Γ : List Sl) (e : Expr) (ds : List PyData) : Prop := EvF X.K (teS X e) Γ ds
section
variable {K : PySem.W.Frag} {G0 H0 G H : Hp} {Γ : List Sl} {σ : L2.St}
theorem At.own (a : At K G0 H0 Γ σ G H) {G' H' : Hp} {i : Nat} {l : Addr} {u : HO} {o : Ob} (g : Gr G H G' H') (hl : H l = none) (hg : G' l = none) (hu : H' l = some u) (p : o.φ G' l u) : At K G0 H0 (Γ.set i (.ob o)) (σ.set i (some (.ref l))) G' H' := by
  have a' := a.grow g
  have h0 : H0 l = none := fresh_back a.gr.hh hl
  have other : ∀ (j : Nat) (o' : Ob), Γ[j]? = some (.ob o') → ∀ l', σ[j]? = some (some (.ref l')) → l' ≠ l := fun j o' hj l' e => by
    obtain ⟨l1, u1, e1, _, _, h1, _⟩ := a.sl j _ hj
    rw [e1] at e
    cases e
    exact ne_of_none h1 hl
  refine ⟨a'.gr, by simp [a'.len], fun j s hj => ?_, fun j k o1 o2 ne hj hk => ?_⟩
  · by_cases e : i = j
    · subst e
      have hi : i < Γ.length := by simpa using (List.getElem?_eq_some_iff.mp hj).1
      rw [List.getElem?_set_self hi] at hj
      cases hj
      exact ⟨l, u, by rw [List.getElem?_set_self (by rw [a'.len]; exact hi)], h0, hg, hu, p⟩
    · rw [List.getElem?_set_ne e] at hj
      rw [List.getElem?_set_ne e]
      exact a'.sl j s hj
  · by_cases e1 : i = j
    · by_cases e2 : i = k
      · exact absurd (e1.symm.trans e2) ne
      · subst e1
        rw [List.getElem?_set_ne e2] at hk
        rw [List.getElem?_set_ne e2]
        have hi : i < Γ.length := by simpa using (List.getElem?_eq_some_iff.mp hj).1
        rw [List.getElem?_set_self (by rw [a'.len]; exact hi)]
        intro l' q1 q2
        cases q1
        exact other k o2 hk l q2 rfl
    · rw [List.getElem?_set_ne e1] at hj
      rw [List.getElem?_set_ne e1]
      by_cases e2 : i = k
      · subst e2
        have hi : i < Γ.length := by simpa using (List.getElem?_eq_some_iff.mp hk).1
        rw [List.getElem?_set_self (by rw [a'.len]; exact hi)]
        intro l' q1 q2
        cases q2
        exact other j o1 hj l q1 rfl
      · rw [List.getElem?_set_ne e2] at hk
        rw [List.getElem?_set_ne e2]
        exact a'.ap j k o1 o2 ne hj hk
theorem set_same {σ : L2.St} {i : Nat} {v : Option V} (e : σ[i]? = some v) : σ.set i v = σ := by
  apply List.ext_getElem?
  intro j
  by_cases q : i = j
  · subst q
    rw [e, List.getElem?_set_self (List.getElem?_eq_some_iff.mp e).1]
  · rw [List.getElem?_set_ne q]
/-- one's own object changed -/
theorem At.chg (a : At K G0 H0 Γ σ G H) {i : Nat} {l : Addr} {o o' : Ob} {u' : HO} (hi : Γ[i]? = some (.ob o)) (hl : σ[i]? = some (some (.ref l))) (p : o'.φ G l u') : At K G0 H0 (Γ.set i (.ob o')) σ G (upd H l u') := by
  obtain ⟨l1, u1, e1, h0, hg, h1, p1⟩ := a.sl i _ hi
  rw [hl] at e1
  cases e1
  refine ⟨gr_mut a.gr h0 hg, by simp [a.len], fun j s hj => ?_, fun j k o1 o2 ne hj hk => ?_⟩
  · by_cases e : i = j
    · subst e
      have hi : i < Γ.length := by simpa using (List.getElem?_eq_some_iff.mp hj).1
      rw [List.getElem?_set_self hi] at hj
      cases hj
      exact ⟨l, u', hl, h0, hg, upd_same, p⟩
    · rw [List.getElem?_set_ne e] at hj
      have z := a.sl j s hj
      cases s with
      | un => trivial
      | dat d => exact z
      | ob o2 =>
        obtain ⟨l2, u2, e2, q0, q1, q2, q3⟩ := z
        exact ⟨l2, u2, e2, q0, q1, by rw [upd_ne (fun z => a.ap i j _ _ e hi hj l hl (by rw [e2, z]))]; exact q2, q3⟩
  · have f : ∀ {m : Nat} {u : Ob}, (Γ.set i (.ob o'))[m]? = some (.ob u) → ∃ u', Γ[m]? = some (.ob u') := fun {m u} q => by
      by_cases e : i = m
      · subst e
        exact ⟨o, hi⟩
      · rw [List.getElem?_set_ne e] at q
        exact ⟨u, q⟩
    obtain ⟨u1, q1⟩ := f hj
    obtain ⟨u2, q2⟩ := f hk
    exact a.ap j k u1 u2 ne q1 q2
/-- one's own list stands still from now on -/
theorem At.freeze (a : At K G0 H0 Γ σ G H) {i : Nat} {ds : List PyData} (hi : Γ[i]? = some (.ob (oL K ds))) : ∃ G', At K G0 H0 (Γ.set i (.dat (.list ds))) σ G' H := by
  obtain ⟨l, u, e, h0, hg, h1, vs, rfl, hd⟩ := a.sl i _ hi
  have ex : Ex G (upd G l (.lst vs)) := Ex.new hg
  refine ⟨upd G l (.lst vs), gr_freeze a.gr h0 hg h1, by simp [a.len], fun j s hj => ?_, fun j k o1 o2 ne hj hk => ?_⟩
  · by_cases q : i = j
    · subst q
      have hlt : i < Γ.length := by simpa using (List.getElem?_eq_some_iff.mp hj).1
      rw [List.getElem?_set_self hlt] at hj
      cases hj
      exact ⟨_, e, .lst upd_same (dp_exs ex _ _ hd)⟩
    · rw [List.getElem?_set_ne q] at hj
      have z := a.sl j s hj
      cases s with
      | un => trivial
      | dat d' =>
        obtain ⟨v, e1, h1⟩ := z
        exact ⟨v, e1, dp_ex ex _ _ h1⟩
      | ob o1 =>
        obtain ⟨l1, u1, e1, h01, hg1, hh1, p1⟩ := z
        have nl : l1 ≠ l := fun z => a.ap i j _ _ q hi hj l e (by rw [e1, z])
        exact ⟨l1, u1, e1, h01, by rw [upd_ne nl]; exact hg1, hh1, o1.mono _ _ _ _ ex p1⟩
  · have f : ∀ {m : Nat} {u : Ob}, (Γ.set i (.dat (.list ds)))[m]? = some (.ob u) → Γ[m]? = some (.ob u) := fun {m u} q => by
      by_cases e : i = m
      · subst e
        have hi : i < Γ.length := by simpa using (List.getElem?_eq_some_iff.mp q).1
        rw [List.getElem?_set_self hi] at q
        cases q
      · rw [List.getElem?_set_ne e] at q
        exact q
    exact a.ap j k o1 o2 ne (f hj) (f hk)
/-- less known of a slot -/
theorem At.lose (a : At K G0 H0 Γ σ G H) (i : Nat) : At K G0 H0 (Γ.set i .un) σ G H := by
  cases h : σ[i]? with
  | none =>
    have hi : Γ.length ≤ i := by
      rw [← a.len]
      exact List.getElem?_eq_none_iff.mp h
    rw [List.set_eq_of_length_le hi]
    exact a
  | some v =>
    have := a.forget (i := i) (x := v)
    rw [set_same h] at this
    exact this
end

section
variable {X : Cx} {P : Program} {w : World} {K : PySem.W.Frag} {mg : Str → Option Value} {base : Heap} {N : List Str} {sc scope : Scope} {k : Nat}
variable {Γ Γ' : List Sl} {e elt iter iter1 tg tg1 a b c : Expr} {es ifs ifs1 : List Expr} {d x y z : PyData} {ds : List PyData} {pos p : Pos} {own : List (Str × Nat)} {is js : List Nat} {g g1 : TG} {κ : Kt} {st : Stmt} {sts rest : List Stmt}
/-- a def's context (not a block's): each name may be stored -/
structure XD (X : Cx) : Prop where
  fn : ∀ x, X.fn x = true
def locB (sc : Scope) (x : Str) : Bool := match sc.names.lookup x with
  | some .local => true
  | some .cell => true
  | _ => false
theorem loc_of {sc : Scope} {x : Str} (h : locB sc x = true) : Loc sc x := by
  unfold locB at h
  split at h
  · exact .inl (by assumption)
  · exact .inr (by assumption)
  · cases h
def lclB (sc : Scope) (x : Str) : Bool := match sc.names.lookup x with
  | some .local => true
  | _ => false
theorem lcl_of {sc : Scope} {x : Str} (h : lclB sc x = true) : sc.names.lookup x = some .local := by
  unfold lclB at h
  split at h
  · assumption
  · cases h
theorem pg_nm (F : XF X P w K mg base N sc k) (xd : XD X) (i : Nat) {x : Str} (hN : N[i]? = some x) (hl : locB sc x = true) : PG X (.Name x pos) (gName i) :=
  pg_name (by rw [F.hN]; exact F.nd) (by rw [F.hN]; exact hN) (by rw [F.hsc]; exact loc_of hl) (.inl (xd.fn x))
/-- in a block -/
theorem pg_nmB (F : XF X P w K mg base N sc k) (i : Nat) {x : Str} (hN : N[i]? = some x) (hl : lclB sc x = true) : PG X (.Name x pos) (gName i) :=
  pg_name (by rw [F.hN]; exact F.nd) (by rw [F.hN]; exact hN) (by rw [F.hsc]; exact .inl (lcl_of hl)) (.inr (by rw [F.hsc]; exact lcl_of hl))

/-! ### blocks -/
theorem ss_nil (h : κ.nx Γ) : Ss X Γ [] κ := fun G0 H0 D M σ G H hA pins s I => pss_nil.run pins s σ H D I (M.nx Γ h σ G H hA)
theorem ss_cons (h : S X Γ st { κ with nx := fun Γ' => Ss X Γ' rest κ }) : Ss X Γ (st :: rest) κ := fun G0 H0 D M σ G H hA pins s I =>
  (pss_cons psS pssS).run pins s σ H D I (h G0 H0 { D with nx := tssS X rest D } ⟨fun Γ' h' σ' G' H' a => h' G0 H0 D M σ' G' H' a, M.rt, M.bk, M.ct⟩ σ G H hA)
theorem ss_freeze {i : Nat} (hi : Γ[i]? = some (.ob (oL X.K ds))) (h : Ss X (Γ.set i (.dat (.list ds))) sts κ) : Ss X Γ sts κ := fun G0 H0 D M σ G H hA => by
  obtain ⟨G', a⟩ := hA.freeze hi
  exact h G0 H0 D M σ G' H a
theorem ss_lose (i : Nat) (h : Ss X (Γ.set i .un) sts κ) : Ss X Γ sts κ := fun G0 H0 D M σ G H hA => h G0 H0 D M σ G H (hA.lose i)
theorem s_freeze {i : Nat} (hi : Γ[i]? = some (.ob (oL X.K ds))) (h : S X (Γ.set i (.dat (.list ds))) st κ) : S X Γ st κ := fun G0 H0 D M σ G H hA => by
  obtain ⟨G', a⟩ := hA.freeze hi
  exact h G0 H0 D M σ G' H a
/-! ### assignments -/
theorem s_asg (F : XF X P w K mg base N sc k) (he : E X Γ e d) (pg : PG X tg g) (hg : Tgd X.K g d Γ Γ' is) (h : κ.nx Γ') (hs : swapsWithSole [tg] e pos.line X.env = pure false := by rfl) (hw : swappedStores [tg] e X.env = pure none := by rfl) (h1 : (assignEach [tg] X.env).map (·.2) = [assign tg X.env] := by rfl) : S X Γ (.Assign [tg] e pos) κ :=
  fun G0 H0 D M σ G H hA pins s I => (ps_asg peS pg hs hw h1).run pins s σ H D I (he G0 H0 σ G H hA _ fun v G1 H1 g1 d1 => hg G0 H0 σ G1 H1 v (hA.grow g1) d1 _ fun σ' hA' _ _ => M.nx Γ' h σ' G1 H1 hA')
theorem s_set (F : XF X P w K mg base N sc k) (xd : XD X) (i : Nat) {x : Str} (he : E X Γ e d) (hN : N[i]? = some x) (hl : locB sc x = true) (h : κ.nx (Γ.set i (.dat d))) (hs : swapsWith e (some (.Name x p)) pos.line X.env = pure false := by rfl) : S X Γ (.Assign [.Name x p] e pos) κ :=
  fun G0 H0 D M σ G H hA pins s I => (ps_set (i := i) (by rw [F.hN]; exact F.nd) (by rw [F.hN]; exact hN) (by rw [F.hsc]; exact loc_of hl) peS hs (.inl (xd.fn x))).run pins s σ H D I (he G0 H0 σ G H hA _ fun v G1 H1 g1 d1 => M.nx _ h _ G1 H1 ((hA.grow g1).set d1))
/-- a new list, one's own -/
theorem s_setF (F : XF X P w K mg base N sc k) (xd : XD X) (i : Nat) {x : Str} (he : Ef X Γ e ds) (hN : N[i]? = some x) (hl : locB sc x = true) (h : κ.nx (Γ.set i (.ob (oL X.K ds)))) (hs : swapsWith e (some (.Name x p)) pos.line X.env = pure false := by rfl) : S X Γ (.Assign [.Name x p] e pos) κ :=
  fun G0 H0 D M σ G H hA pins s I => (ps_set (i := i) (by rw [F.hN]; exact F.nd) (by rw [F.hN]; exact hN) (by rw [F.hsc]; exact loc_of hl) peS hs (.inl (xd.fn x))).run pins s σ H D I (he G0 H0 σ G H hA _ fun l vs G1 H1 g1 h1 h2 h3 d1 => M.nx _ h _ G1 H1 (hA.own g1 h1 h2 h3 ⟨vs, rfl, d1⟩))
theorem ef_of {te : TE} (h : PE X e te) (k : EvF X.K te Γ ds) : Ef X Γ e ds := fun G0 H0 σ G H hA Q hQ pins s I => h.run pins s σ H Q I (k G0 H0 σ G H hA Q hQ)
theorem ef_list (h : As X Γ es ds) (hl : ds.length ≤ 100000) : Ef X Γ (.List es pos) ds := ef_of (pe_lst paS) fun G0 H0 σ G H hA Q hQ =>
  h G0 H0 σ G H hA _ fun vs G1 H1 g1 d1 => ⟨sz_of (by rw [dpa_len d1]; exact hl), fun p hp => hQ p vs G1 _ ⟨g1.gg, g1.gh.trans (Ex.new hp), g1.hh.trans (Ex.new hp), g1.fr⟩ (fresh_back g1.hh hp) (fresh_back g1.gh hp) upd_same d1⟩
theorem ef_rep {n : Int} (ha : E X Γ a (.list ds)) (hb : E X Γ b (.int n)) (h1 : -1000000 ≤ n) (h2 : n ≤ 1000000) (hl : ds.length * n.toNat ≤ 100000) : Ef X Γ (.BinOp a .Mult b pos) (List.replicate n.toNat ds).flatten := ef_of (pe_op op_rep peS peS) fun G0 H0 σ G H hA Q hQ =>
  ha G0 H0 σ G H hA _ fun v G1 H1 g1 d1 => hb G0 H0 σ G1 H1 (hA.grow g1) _ fun u G2 H2 g2 d2 => by
    cases d1 with
    | lst hs hd =>
      cases d2
      refine ⟨_, n, _, rfl, rfl, g2.hh _ _ (g1.gh _ _ hs), by omega, by omega, sz_of (by rw [dpa_len hd]; exact hl), fun p hp => hQ p _ G2 _ ⟨(g1.trans g2).gg, g2.gh.trans (Ex.new hp), (g1.trans g2).hh.trans (Ex.new hp), (g1.trans g2).fr⟩ (fresh_back (g1.trans g2).hh hp) (fresh_back g2.gh hp) upd_same (dp_exs g2.gg _ _ (dpa_reps hd _))⟩
theorem ef_if {v : Bool} (h : T X Γ c v) (h1 : v = true → Ef X Γ a ds) (h2 : v = false → Ef X Γ b ds) : Ef X Γ (.IfExp c a b pos) ds := ef_of (pe_ifExp ptS peS peS) fun G0 H0 σ G H hA Q hQ =>
  h G0 H0 σ G H hA _ fun G1 H1 g1 => by
    have fin : ∀ l vs G' H', Gr G1 H1 G' H' → H1 l = none → G' l = none → H' l = some (.lst vs) → DtAll X.K G' vs ds → Q (.ref l) H' := fun l vs G' H' g2 q1 q2 q3 q4 => hQ l vs G' H' (g1.trans g2) (fresh_back g1.hh q1) q2 q3 q4
    cases v with
    | true =>
      show teS X _ σ H1 Q
      exact h1 rfl G0 H0 σ G1 H1 (hA.grow g1) Q fin
    | false =>
      show teS X _ σ H1 Q
      exact h2 rfl G0 H0 σ G1 H1 (hA.grow g1) Q fin
/-- a comprehension's list, to a local name -/
theorem s_setLc {α : Type} (F : XF X P w K mg base N sc k) (xd : XD X) (i : Nat) {x : Str} (own : List (Str × Nat)) (ok : blkC N sc scope own = true) (xs : List α) (enc : α → PyData) (hs : Src X Γ tg iter (xs.map enc)) (hz : xs.length ≤ 100000) (f : α → Bool) (h : α → PyData) (Γ1 : α → List Sl) (hv : ∀ j ∈ is, j ∈ own.map (·.2))
    (pg : ∀ Y, XF Y P w K mg base N (relS scope sc) k → PG Y tg g) (hg : ∀ d ∈ xs, Tgd K g (enc d) (wipeG Γ (own.map (·.2))) (Γ1 d) is)
    (ht : ∀ Y, XF Y P w K mg base N (relS scope sc) k → ∀ d ∈ xs, Tis Y (Γ1 d) ifs (f d)) (he : ∀ Y, XF Y P w K mg base N (relS scope sc) k → ∀ d ∈ xs, f d = true → E Y (Γ1 d) elt (h d))
    (hN : N[i]? = some x) (hl : lclB sc x = true) (kx : κ.nx (Γ.set i (.dat (.list ((xs.filter f).map h))))) (hk : sc.kind = .function) (hln : (p.line == pos.line) = true) (hno : (scope.names.any fun (n, k) => n == x && (k == .local || k == .cell)) = false) {spos : Pos}
    (hfs : ∀ z, foldedSetIterable iter X.env z = pure z := by intro _; rfl) : S X Γ (.Assign [.Name x p] (.ListComp elt [⟨tg, iter, ifs, 0⟩] scope pos) spos) κ := by
  obtain ⟨wi, pi, ev⟩ := hs
  intro G0 H0 D M σ G H hA pins s I
  refine (ps_setLc (i := i) F.calm (by rw [F.hN]; exact F.nd) (by rw [F.hN]; exact hN) (by rw [F.hsc]; exact lcl_of hl) (sw_true (by rw [F.hsc]; exact hk) (by rw [F.hsc]; exact lcl_of hl) hln hno) pi (blk_ok F ok) (fun s H C cl fp => pg _ (F.blk s H C cl fp)) ptB peB hfs).run pins s σ H D I ?_
  exact evd_lcX F xs enc f h Γ1 ev hz hv (by rw [F.hK]; exact hg) ht he G0 H0 σ G H hA _ fun v G1 H1 g1 d1 => M.nx _ kx _ G1 H1 ((hA.grow g1).set d1)
theorem s_setLc2 {α β : Type} (F : XF X P w K mg base N sc k) (xd : XD X) (i : Nat) {x : Str} (own : List (Str × Nat)) (vs1 : List Nat) (ok : blkC N sc scope own = true) (xs : List α) (enc : α → PyData) (hs : Src X Γ tg iter (xs.map enc)) (hz0 : xs.length ≤ 300) (es1 : α → List β) (enc1 : β → PyData) (hz : ∀ d ∈ xs, (es1 d).length ≤ 300) (h : α → β → PyData) (Γ1 : α → List Sl) (Γ2 : α → β → List Sl)
    (hv : ∀ j ∈ is, j ∈ own.map (·.2)) (hv1 : ∀ j ∈ js, j ∈ vs1) (hvv : ∀ j ∈ vs1, j ∈ own.map (·.2)) (hob : ∀ d ∈ xs, ∀ (i : Nat) (o : Ob), (Γ1 d)[i]? ≠ some (.ob o))
    (pg : ∀ Y, XF Y P w K mg base N (relS scope sc) k → PG Y tg g) (hg : ∀ d ∈ xs, Tgd K g (enc d) (wipeG Γ (own.map (·.2))) (Γ1 d) is)
    (wi1 : TI) (pi1 : ∀ Y, XF Y P w K mg base N (relS scope sc) k → PI Y tg1 iter1 wi1) (ev1 : ∀ d ∈ xs, EvI K wi1 (Γ1 d) ((es1 d).map enc1))
    (pg1 : ∀ Y, XF Y P w K mg base N (relS scope sc) k → PG Y tg1 g1) (hg1 : ∀ d ∈ xs, ∀ e ∈ es1 d, Tgd K g1 (enc1 e) (wipeG (Γ1 d) vs1) (Γ2 d e) js)
    (he : ∀ Y, XF Y P w K mg base N (relS scope sc) k → ∀ d ∈ xs, ∀ e ∈ es1 d, E Y (Γ2 d e) elt (h d e))
    (hN : N[i]? = some x) (hl : lclB sc x = true) (kx : κ.nx (Γ.set i (.dat (.list (xs.flatMap fun d => (es1 d).map (h d)))))) (hk : sc.kind = .function) (hln : (p.line == pos.line) = true) (hno : (scope.names.any fun (n, k) => n == x && (k == .local || k == .cell)) = false) {spos : Pos}
    (hfs : ∀ x, foldedSetIterable iter X.env x = pure x := by intro _; rfl) (hfs1 : ∀ env x, foldedSetIterable iter1 env x = pure x := by intro _ _; rfl) : S X Γ (.Assign [.Name x p] (.ListComp elt [⟨tg, iter, [], 0⟩, ⟨tg1, iter1, [], 0⟩] scope pos) spos) κ := by
  obtain ⟨wi, pi, ev⟩ := hs
  have hK := F.hK
  intro G0 H0 D M σ G H hA pins s I
  refine (ps_setLc2 (i := i) F.calm (by rw [F.hN]; exact F.nd) (by rw [F.hN]; exact hN) (by rw [F.hsc]; exact lcl_of hl) (sw_true (by rw [F.hsc]; exact hk) (by rw [F.hsc]; exact lcl_of hl) hln hno) pi (blk_ok F ok) hvv (fun s H C cl fp => pg _ (F.blk s H C cl fp)) ptB (fun s H C cl fp => pi1 _ (F.blk s H C cl fp)) (fun s H C cl fp => pg1 _ (F.blk s H C cl fp)) ptB peB hfs hfs1).run pins s σ H D I ?_
  exact evd_lc2 xs enc es1 enc1 h Γ1 Γ2 ev hz hz0 hv hv1 hob (by rw [hK]; exact hg) (fun d hd => evb_B fun s H C cl fp => .nil) (by rw [hK]; exact ev1) (by rw [hK]; exact hg1) (fun d hd e he' => evb_B fun s H C cl fp => .nil) (fun d hd e he' => evd_B fun s H C cl fp => he _ (F.blk s H C cl fp) d hd e he') G0 H0 σ G H hA _ fun v G1 H1 g1 d1 => M.nx _ kx _ G1 H1 ((hA.grow g1).set d1)
/-! ### one's own list changed -/
theorem evl_at {i : Nat} {G0 H0 G H : Hp} {σ : L2.St} (hA : At X.K G0 H0 Γ σ G H) (hi : Γ[i]? = some (.ob (oL X.K ds))) : ∃ l vs, σ[i]? = some (some (.ref l)) ∧ H l = some (.lst vs) ∧ G l = none ∧ H0 l = none ∧ DtAll X.K G vs ds := by
  obtain ⟨l, u, e, h0, hg, h1, vs, rfl, hd⟩ := hA.sl i _ hi
  exact ⟨l, vs, e, h1, hg, h0, hd⟩
theorem s_append (F : XF X P w K mg base N sc k) (i : Nat) {x : Str} {apos cpos px : Pos} (hN : N[i]? = some x) (hv : visB sc x = true) (hi : Γ[i]? = some (.ob (oL X.K ds))) (he : E X Γ e d) (hl : ds.length < 100000) (h : κ.nx (Γ.set i (.ob (oL X.K (ds ++ [d])))))
    (hd : (x == ("__debug__" : Str)) = false := by decide) (hcd : (x == ("__classdict__" : Str)) = false := by decide) (hs : starEach [e] X.env = (false, eval e X.env) :: starEach [] X.env := by rfl)
    (hline : (apos.endLine == cpos.line) = true := by rfl) (hsw : swapsWith (.Call (.Attribute (.Name x px) "append" apos) [e] [] cpos) none pos.line X.env = pure false := by rfl) : S X Γ (.Expr (.Call (.Attribute (.Name x px) "append" apos) [e] [] cpos) pos) κ := by
  intro G0 H0 D M σ G H hA pins s I
  refine (ps_expr (pe_bm PySem.F.plainAttrs_list PySem.F.slot_list_append PySem.F.type_list_append mt_append (pe_var (i := i) (by rw [F.hN]; exact hN) (by rw [F.hsc]; exact vis_of hv) hd hcd) (pa_cons peS pa_nil hs) (by rfl) (by rw [hs]; rfl) hline hs) hsw).run pins s σ H D I ?_
  obtain ⟨l, vs, e1, h1, hg, h0, hd1⟩ := evl_at hA hi
  refine ⟨_, e1, .inl ⟨rfl, _, sq_of h1⟩, he G0 H0 σ G H hA _ fun v G1 H1 g1 d1 => ?_⟩
  have hd2 : DtAll X.K G1 vs ds := dp_exs g1.gg _ _ hd1
  exact ⟨l, vs, v, rfl, rfl, g1.hh _ _ h1, sz_lt (by rw [dpa_len hd1]; exact hl), M.nx _ h _ G1 _ ((hA.grow g1).chg hi e1 ⟨_, rfl, dpa_app hd2 (.cons d1 .nil)⟩)⟩
theorem s_setIx (F : XF X P w K mg base N sc k) (i : Nat) {x : Str} {spos px : Pos} {n : Int} {j : Nat} (hN : N[i]? = some x) (hv : visB sc x = true) (hi : Γ[i]? = some (.ob (oL X.K ds))) (he : E X Γ e d) (hb : E X Γ b (.int n)) (hj : ixN ds.length n = some j) (h : κ.nx (Γ.set i (.ob (oL X.K (ds.set j d)))))
    (hd : (x == ("__debug__" : Str)) = false := by decide) (hcd : (x == ("__classdict__" : Str)) = false := by decide) (hs : swapsWithSole [.Subscript (.Name x px) b spos] e pos.line X.env = pure false := by rfl) (hw : swappedStores [.Subscript (.Name x px) b spos] e X.env = pure none := by rfl)
    (hpg : ∀ {to ti : TE}, PE X (.Name x px) to → PE X b ti → PG X (.Subscript (.Name x px) b spos) (gSub to ti rSetL) := by exact fun h1 h2 => pg_sub h1 h2 set_list) : S X Γ (.Assign [.Subscript (.Name x px) b spos] e pos) κ := by
  intro G0 H0 D M σ G H hA pins s I
  refine (ps_asg peS (hpg (pe_var (i := i) (by rw [F.hN]; exact hN) (by rw [F.hsc]; exact vis_of hv) hd hcd) peS) hs hw).run pins s σ H D I ?_
  refine he G0 H0 σ G H hA _ fun v G1 H1 g1 d1 => ?_
  have hA1 := hA.grow g1
  obtain ⟨l, vs, e1, h1, hg, h0, hd1⟩ := evl_at hA1 hi
  refine ⟨_, e1, hb G0 H0 σ G1 H1 hA1 _ fun u G2 H2 g2 d2 => ?_⟩
  cases d2
  exact ⟨l, vs, n, j, rfl, rfl, g2.hh _ _ h1, by rw [dpa_len hd1]; exact hj, M.nx _ h _ G2 _ ((hA1.grow g2).chg hi e1 ⟨_, rfl, dpa_set (dp_exs g2.gg _ _ hd1) (dp_ex g2.gg _ _ d1)⟩)⟩
/-! ### if, return, expressions -/
theorem s_if {v : Bool} {sa sb : List Stmt} (h : T X Γ c v) (h1 : v = true → Ss X Γ sa κ) (h2 : v = false → Ss X Γ sb κ) : S X Γ (.If c sa sb pos) κ := fun G0 H0 D M σ G H hA pins s I =>
  (ps_if ptS pssS pssS).run pins s σ H D I (h G0 H0 σ G H hA _ fun G1 H1 g1 => by
    cases v with
    | true =>
      rw [if_pos rfl]
      exact h1 rfl G0 H0 D M σ G1 H1 (hA.grow g1)
    | false =>
      rw [if_neg Bool.false_ne_true]
      exact h2 rfl G0 H0 D M σ G1 H1 (hA.grow g1))
theorem s_ret (h : E X Γ e d) (hr : κ.rt d) : S X Γ (.Return (some e) pos) κ := fun G0 H0 D M σ G H hA pins s I =>
  (ps_ret peS).run pins s σ H D I (h G0 H0 σ G H hA _ fun v G1 H1 g1 d1 => M.rt d hr v G1 H1 (hA.gr.trans g1) d1)
theorem s_retN (hr : κ.rt .none) : S X Γ (.Return none pos) κ := fun G0 H0 D M σ G H hA pins s I => ps_retN.run pins s σ H D I (M.rt _ hr .non G H hA.gr .non)
theorem s_expr (h : E X Γ e d) (hn : κ.nx Γ) (hs : swapsWith e none pos.line X.env = pure false := by rfl) : S X Γ (.Expr e pos) κ := fun G0 H0 D M σ G H hA pins s I =>
  (ps_expr peS hs).run pins s σ H D I (h G0 H0 σ G H hA _ fun v G1 H1 g1 d1 => M.nx Γ hn σ G1 H1 (hA.grow g1))
theorem s_break (h : κ.bk Γ) : S X Γ (.Break pos) κ := fun G0 H0 D M σ G H hA pins s I => ps_break.run pins s σ H D I (M.bk Γ h σ G H hA)
theorem s_continue (h : κ.ct Γ) : S X Γ (.Continue pos) κ := fun G0 H0 D M σ G H hA pins s I => ps_continue.run pins s σ H D I (M.ct Γ h σ G H hA)
/-! ### loops -/
theorem s_for (F : XF X P w K mg base N sc k) {body : List Stmt} (hs : Src X Γ tg iter ds) (pg : PG X tg g) (Iv : Nat → List Sl → Prop) (h0 : Iv 0 Γ)
    (hb : ∀ i d Γ', ds[i]? = some d → Iv i Γ' → ∃ Γ2 is, Tgd K g d Γ' Γ2 is ∧ Ss X Γ2 body ⟨Iv (i + 1), κ.rt, κ.nx, Iv (i + 1)⟩) (hd : ∀ Γ', Iv ds.length Γ' → κ.nx Γ')
    (hfs : ∀ x, foldedSetIterable iter X.env x = pure x := by intro _; rfl) : S X Γ (.For tg iter body [] pos) κ := by
  obtain ⟨wi, pi, ev⟩ := hs
  have hK := F.hK
  intro G0 H0 D M σ G H hA pins s I
  refine (ps_for (by rw [F.xe]; exact PassesOwn.never) F.calm pi pg pssS hfs).run pins s σ H D I ?_
  refine ev G0 H0 σ G H hA _ fun J G1 H1 g1 Y => ?_
  have hA1 := hA.grow g1
  refine ⟨fun i m σ' H' => m = ds.length - i ∧ i ≤ ds.length ∧ ∃ Γ' G', Iv i Γ' ∧ At X.K G1 H0 Γ' σ' G' H', ⟨ds.length, by simp, Nat.zero_le _, Γ, G1, h0, hA1.rebase⟩, ?_⟩
  rintro i m σ' H' ⟨rfl, hil, Γ', G', iv, a⟩
  by_cases hlt : i < ds.length
  · refine .inr ⟨Y.go i H' hlt (a.gr.gg.trans a.gr.gh), fun σ2 H2 => ∃ Γ2 G2, Iv (i + 1) Γ2 ∧ At X.K G1 H0 Γ2 σ2 G2 H2, fun σ2 H2 ⟨Γ2, G2, iv2, a2⟩ => ⟨ds.length - (i + 1), by omega, rfl, hlt, Γ2, G2, iv2, a2⟩, fun x H2 hy => ?_⟩
    have hd' : ds[i]? = some ds[i] := List.getElem?_eq_getElem hlt
    obtain ⟨G2, g2, hx⟩ := Y.yld i _ x G' H' H2 hd' hy a.gr.gg a.gr.gh
    obtain ⟨Γ2, is, tgd, body⟩ := hb i _ Γ' hd' iv
    rw [← hK] at tgd
    refine tgd G1 H0 σ' G2 H2 x (a.grow g2) hx _ fun σ3 a3 _ _ => body G1 H0 { D with nx := fun σ2 H2 => ∃ Γ2 G2, Iv (i + 1) Γ2 ∧ At X.K G1 H0 Γ2 σ2 G2 H2, ct := fun σ2 H2 => ∃ Γ2 G2, Iv (i + 1) Γ2 ∧ At X.K G1 H0 Γ2 σ2 G2 H2, bk := D.nx } ⟨fun Γ3 iv3 σ4 G4 H4 a4 => ⟨Γ3, G4, iv3, a4⟩, fun d' hr v G4 H4 g4 d4 => M.rt d' hr v G4 H4 (gr_unbase hA1.gr g4) d4, fun Γ3 hn σ4 G4 H4 a4 => M.nx Γ3 hn σ4 G4 H4 (a4.unbase hA1.gr), fun Γ3 iv3 σ4 G4 H4 a4 => ⟨Γ3, G4, iv3, a4⟩⟩ σ3 G2 H2 a3
  · have e : i = ds.length := by omega
    subst e
    exact .inl ⟨Y.stop H' (a.gr.gg.trans a.gr.gh), M.nx Γ' (hd Γ' iv) σ' G' H' (a.unbase hA1.gr)⟩
theorem s_while (F : XF X P w K mg base N sc k) {body : List Stmt} (W : Nat → List Sl → Prop) (m0 : Nat) (h0 : W m0 Γ)
    (hb : ∀ m Γ', W m Γ' → ∃ v, T X Γ' c v ∧ (v = true → Ss X Γ' body ⟨fun Γ2 => ∃ m', m' < m ∧ W m' Γ2, κ.rt, κ.nx, fun Γ2 => ∃ m', m' < m ∧ W m' Γ2⟩) ∧ (v = false → κ.nx Γ')) : S X Γ (.While c body [] pos) κ := by
  intro G0 H0 D M σ G H hA pins s I
  refine (ps_while (by rw [F.xe]; exact PassesOwn.never) ptS pssS).run pins s σ H D I ?_
  refine ⟨fun m σ' H' => ∃ Γ' G', W m Γ' ∧ At X.K G0 H0 Γ' σ' G' H', ⟨m0, Γ, G, h0, hA⟩, ?_⟩
  rintro m σ' H' ⟨Γ', G', iv, a⟩
  obtain ⟨v, t, b1, b2⟩ := hb m Γ' iv
  refine t G0 H0 σ' G' H' a _ fun G1 H1 g1 => ?_
  cases v with
  | true =>
    rw [if_pos rfl]
    refine ⟨fun σ2 H2 => ∃ m', m' < m ∧ ∃ Γ2 G2, W m' Γ2 ∧ At X.K G0 H0 Γ2 σ2 G2 H2, fun σ2 H2 ⟨m', hm, Γ2, G2, w2, a2⟩ => ⟨m', hm, Γ2, G2, w2, a2⟩, ?_⟩
    exact b1 rfl G0 H0 { D with nx := fun σ2 H2 => ∃ m', m' < m ∧ ∃ Γ2 G2, W m' Γ2 ∧ At X.K G0 H0 Γ2 σ2 G2 H2, ct := fun σ2 H2 => ∃ m', m' < m ∧ ∃ Γ2 G2, W m' Γ2 ∧ At X.K G0 H0 Γ2 σ2 G2 H2, bk := D.nx } ⟨fun Γ2 ⟨m', hm, w2⟩ σ2 G2 H2 a2 => ⟨m', hm, Γ2, G2, w2, a2⟩, M.rt, fun Γ2 hn σ2 G2 H2 a2 => M.nx Γ2 hn σ2 G2 H2 a2, fun Γ2 ⟨m', hm, w2⟩ σ2 G2 H2 a2 => ⟨m', hm, Γ2, G2, w2, a2⟩⟩ σ' G1 H1 (a.grow g1)
  | false =>
    rw [if_neg Bool.false_ne_true]
    exact M.nx Γ' (b2 rfl) σ' G1 H1 (a.grow g1)
end

/-! ### defs -/
abbrev FnP (K : PySem.W.Frag) (x : Str) (st : Stmt) (f : Addr) (fd : FuncData) : Prop := FunD K x x (defArgs st) (defBody st) (defScope st) [] [] f fd
section
variable {P : Program} {w : World} {K : PySem.W.Frag} {mg : Str → Option Value} {base : Heap}
theorem dts_at {G : Hp} : ∀ {vs : List V} {ds : List PyData} (m : Nat), DtAll K G vs ds → ∀ (i : Nat) (s : Sl), (ds.map Sl.dat ++ List.replicate m .un)[i]? = some s → SlOk K H0 G H ((vs.map some ++ List.replicate m none)[i]?) s
  | _, _, m, .nil, i, s, h => by
    simp only [List.map_nil, List.nil_append] at h
    have := List.mem_of_getElem? h
    rw [(List.mem_replicate.mp this).2]
    trivial
  | _, _, m, .cons a b, 0, s, h => by
    simp at h
    subst h
    exact ⟨_, rfl, a⟩
  | _, _, m, .cons a b, i + 1, s, h => dts_at m b i s (by simpa using h)
/-- THE RULE for a def -/
theorem fn_ok {x : Str} {st : Stmt} {f : Addr} {fd : FuncData} {N ps : List Str} {k : Nat} {dom : List PyData → PyData → Prop} (Fn : FnP K x st f fd) (Sc : FnScope N ps (defScope st)) (hl : ∀ ds r, dom ds r → ds.length = ps.length)
    (hbody : ∀ X, XF X P w K mg base N (defScope st) k → XD X → ∀ ds r, dom ds r → Ss X (ds.map .dat ++ List.replicate (N.length - ps.length) .un) (defBody st) ⟨fun _ => r = .none, fun d => d = r, fun _ => False, fun _ => False⟩) : FnOk P w K mg base CX0 (k + 1) f fd ps (SpD K dom) := by
  refine Fn.ok Sc (fun vs H Q E h => ?_) (fun cdv A outer s H vs Q E hr h => ?_)
  · obtain ⟨G, ds, r, _, hd, hdom, _⟩ := h
    rw [dpa_len hd, hl ds r hdom]
  · obtain ⟨G, ds, r, ex, hd, hdom, hQ⟩ := h
    refine ⟨tssS (cxOf CX0 P w K mg base N x (defScope st) f cdv A outer s H E).nox (defBody st), PSs.nox pssS, ?_⟩
    have hX : XF (cxOf CX0 P w K mg base N x (defScope st) f cdv A outer s H E).nox P w K mg base N (defScope st) k := ⟨rfl, rfl, rfl, rfl, rfl, rfl, rfl, rfl, hr, rfl, Sc.nd⟩
    have hpl : ps.length ≤ N.length := by
      have := congrArg List.length Sc.pre
      rw [List.length_take] at this
      omega
    have hv : vs.length = ps.length := by rw [dpa_len hd, hl ds r hdom]
    refine hbody _ hX ⟨fun _ => rfl⟩ ds r hdom G H _ ⟨fun Γ' h' σ' G' H' a => ?_, fun d h' v G' H' g d1 => ?_, fun _ z => z.elim, fun _ z => z.elim⟩ (L2.start N vs) G H ⟨Gr.refl ex, ?_, fun i s hs => ?_, fun i j o o' ne hi hj => ?_⟩
    · have e : r = .none := h'
      subst e
      exact hQ .non G' H' a.gr .non
    · have e : d = r := h'
      subst e
      exact hQ v G' H' g d1
    · simp [L2.start, dpa_len hd, hl ds r hdom]
    · unfold L2.start
      rw [hv]
      exact dts_at _ hd i s hs
    · exfalso
      have m := List.mem_of_getElem? hi
      rcases List.mem_append.mp m with m | m
      · obtain ⟨_, _, e⟩ := List.mem_map.mp m
        cases e
      · cases (List.mem_replicate.mp m).2
theorem fn_mk {x : Str} {st : Stmt} {f : Addr} {fd : FuncData} {N ps : List Str} {k : Nat} {dom : List PyData → PyData → Prop} (Fn : FnP K x st f fd) (hm : mg x = some (.ref f)) (Sc : FnScope N ps (defScope st)) (hl : ∀ ds r, dom ds r → ds.length = ps.length)
    (hb : ∀ (kV doc pm : Value) (an : Option Addr) (cdv ct : Value) (us : List Value), us.length = ps.length → bindArgs (PySem.W.fnOf x x (defArgs st) (defBody st) (defScope st) .none kV doc pm an cdv ct) ⟨us, []⟩ = pure (ps.zip us))
    (hbody : ∀ X, XF X P w K mg base N (defScope st) k → XD X → ∀ ds r, dom ds r → Ss X (ds.map .dat ++ List.replicate (N.length - ps.length) .un) (defBody st) ⟨fun _ => r = .none, fun d => d = r, fun _ => False, fun _ => False⟩) : FnF P w K mg base x (k + 1) dom :=
  ⟨f, fd, ps, hm, Fn.kp, Fn.bindsN hb, fn_ok Fn Sc hl hbody⟩
end
end Z
set_option Elab.async false
set_option linter.all false
set_option maxRecDepth 100000
set_option maxHeartbeats 2000000
/-! The defs by their places. Printed by gen_text.py. -/
namespace Z
open PySem PySem.Spec PyProof.Rows L2 Evl
def topS (i : Nat) : Stmt := PySem.Challenge.pw_stillroom_k76_whole_differences.main.body.getD i (.Pass ⟨0, 0, 0, 0⟩)
abbrev s_is_integer : Stmt := topS 5
abbrev n_is_integer : List Str := ["value"]
theorem c_is_integer : FnScope n_is_integer ["value"] (defScope s_is_integer) := ⟨rfl, rfl, rfl, by decide +kernel, rfl, by decide +kernel, by decide +kernel⟩
abbrev s_is_between : Stmt := topS 6
abbrev n_is_between : List Str := ["value", "least", "most"]
theorem c_is_between : FnScope n_is_between ["value", "least", "most"] (defScope s_is_between) := ⟨rfl, rfl, rfl, by decide +kernel, rfl, by decide +kernel, by decide +kernel⟩
abbrev s_is_pattern : Stmt := topS 17
abbrev n_is_pattern : List Str := ["value", "byte"]
theorem c_is_pattern : FnScope n_is_pattern ["value"] (defScope s_is_pattern) := ⟨rfl, rfl, rfl, by decide +kernel, rfl, by decide +kernel, by decide +kernel⟩
abbrev s_is_word : Stmt := topS 18
abbrev n_is_word : List Str := ["value", "words"]
theorem c_is_word : FnScope n_is_word ["value", "words"] (defScope s_is_word) := ⟨rfl, rfl, rfl, by decide +kernel, rfl, by decide +kernel, by decide +kernel⟩
abbrev s_is_body : Stmt := topS 19
abbrev n_is_body : List Str := ["value"]
theorem c_is_body : FnScope n_is_body ["value"] (defScope s_is_body) := ⟨rfl, rfl, rfl, by decide +kernel, rfl, by decide +kernel, by decide +kernel⟩
abbrev s_is_term : Stmt := topS 20
abbrev n_is_term : List Str := ["value"]
theorem c_is_term : FnScope n_is_term ["value"] (defScope s_is_term) := ⟨rfl, rfl, rfl, by decide +kernel, rfl, by decide +kernel, by decide +kernel⟩
abbrev s_is_rule : Stmt := topS 21
abbrev n_is_rule : List Str := ["value", "term"]
theorem c_is_rule : FnScope n_is_rule ["value"] (defScope s_is_rule) := ⟨rfl, rfl, rfl, by decide +kernel, rfl, by decide +kernel, by decide +kernel⟩
abbrev s_is_policy : Stmt := topS 22
abbrev n_is_policy : List Str := ["value", "rule"]
theorem c_is_policy : FnScope n_is_policy ["value"] (defScope s_is_policy) := ⟨rfl, rfl, rfl, by decide +kernel, rfl, by decide +kernel, by decide +kernel⟩
abbrev s_opened : Stmt := topS 23
abbrev n_opened : List Str := ["pattern", "places", "reached", "place"]
theorem c_opened : FnScope n_opened ["pattern", "places"] (defScope s_opened) := ⟨rfl, rfl, rfl, by decide +kernel, rfl, by decide +kernel, by decide +kernel⟩
abbrev s_moved : Stmt := topS 24
abbrev n_moved : List Str := ["pattern", "places", "byte", "reached", "place"]
theorem c_moved : FnScope n_moved ["pattern", "places", "byte"] (defScope s_moved) := ⟨rfl, rfl, rfl, by decide +kernel, rfl, by decide +kernel, by decide +kernel⟩
abbrev s_matches : Stmt := topS 25
abbrev n_matches : List Str := ["pattern", "name", "places", "byte"]
theorem c_matches : FnScope n_matches ["pattern", "name"] (defScope s_matches) := ⟨rfl, rfl, rfl, by decide +kernel, rfl, by decide +kernel, by decide +kernel⟩
abbrev s_stands : Stmt := topS 26
abbrev n_stands : List Str := ["number", "sign", "other"]
theorem c_stands : FnScope n_stands ["number", "sign", "other"] (defScope s_stands) := ⟨rfl, rfl, rfl, by decide +kernel, rfl, by decide +kernel, by decide +kernel⟩
abbrev s_number_of : Stmt := topS 27
abbrev n_number_of : List Str := ["fact", "facts"]
theorem c_number_of : FnScope n_number_of ["fact", "facts"] (defScope s_number_of) := ⟨rfl, rfl, rfl, by decide +kernel, rfl, by decide +kernel, by decide +kernel⟩
abbrev s_holds : Stmt := topS 28
abbrev n_holds : List Str := ["term", "facts", "negated", "body", "found"]
theorem c_holds : FnScope n_holds ["term", "facts"] (defScope s_holds) := ⟨rfl, rfl, rfl, by decide +kernel, rfl, by decide +kernel, by decide +kernel⟩
abbrev s_patterns_of : Stmt := topS 33
abbrev n_patterns_of : List Str := ["policies", "patterns", "policy", "_", "terms", "body"]
theorem c_patterns_of : FnScope n_patterns_of ["policies"] (defScope s_patterns_of) := ⟨rfl, rfl, rfl, by decide +kernel, rfl, by decide +kernel, by decide +kernel⟩
abbrev s_name_table : Stmt := topS 34
abbrev n_name_table : List Str := ["patterns", "letters", "pattern", "byte", "other", "start", "names", "waiting", "state", "behind", "places", "table", "key"]
theorem c_name_table : FnScope n_name_table ["patterns"] (defScope s_name_table) := ⟨rfl, rfl, rfl, by decide +kernel, rfl, by decide +kernel, by decide +kernel⟩
abbrev s_kind_choices : Stmt := topS 35
abbrev n_kind_choices : List Str := ["choices", "first", "bits", "kinds", "found", "kind"]
theorem c_kind_choices : FnScope n_kind_choices [] (defScope s_kind_choices) := ⟨rfl, rfl, rfl, by decide +kernel, rfl, by decide +kernel, by decide +kernel⟩
abbrev s_numbers_for : Stmt := topS 36
abbrev n_numbers_for : List Str := ["terms", "fact", "greatest", "numbers", "_", "body", "number"]
theorem c_numbers_for : FnScope n_numbers_for ["terms", "fact", "greatest"] (defScope s_numbers_for) := ⟨rfl, rfl, rfl, by decide +kernel, rfl, by decide +kernel, by decide +kernel⟩
abbrev s_about : Stmt := topS 37
abbrev n_about : List Str := ["terms", "words", "term"]
theorem c_about : FnScope n_about ["terms", "words"] (defScope s_about) := ⟨rfl, rfl, rfl, by decide +kernel, rfl, by decide +kernel, by decide +kernel⟩
abbrev s_all_hold : Stmt := topS 38
abbrev n_all_hold : List Str := ["terms", "facts", "term"]
theorem c_all_hold : FnScope n_all_hold ["terms", "facts"] (defScope s_all_hold) := ⟨rfl, rfl, rfl, by decide +kernel, rfl, by decide +kernel, by decide +kernel⟩
abbrev s_number_that_fits : Stmt := topS 39
abbrev n_number_that_fits : List Str := ["terms", "fact", "wanted", "number", "facts"]
theorem c_number_that_fits : FnScope n_number_that_fits ["terms", "fact"] (defScope s_number_that_fits) := ⟨rfl, rfl, rfl, by decide +kernel, rfl, by decide +kernel, by decide +kernel⟩
abbrev s_acts_that_fit : Stmt := topS 40
abbrev n_acts_that_fit : List Str := ["terms", "wanted", "bits", "kinds", "at", "kind", "number", "acts"]
theorem c_acts_that_fit : FnScope n_acts_that_fit ["terms"] (defScope s_acts_that_fit) := ⟨rfl, rfl, rfl, by decide +kernel, rfl, by decide +kernel, by decide +kernel⟩
abbrev s_kinds_that_fit : Stmt := topS 41
abbrev n_kinds_that_fit : List Str := ["terms", "wanted", "kind", "kinds"]
theorem c_kinds_that_fit : FnScope n_kinds_that_fit ["terms"] (defScope s_kinds_that_fit) := ⟨rfl, rfl, rfl, by decide +kernel, rfl, by decide +kernel, by decide +kernel⟩
abbrev s_name_that_fits : Stmt := topS 42
abbrev n_name_that_fits : List Str := ["terms", "patterns", "table", "wanted", "key", "negated", "body"]
theorem c_name_that_fits : FnScope n_name_that_fits ["terms", "patterns", "table"] (defScope s_name_that_fits) := ⟨rfl, rfl, rfl, by decide +kernel, rfl, by decide +kernel, by decide +kernel⟩
abbrev s_facts_that_fit : Stmt := topS 43
abbrev n_facts_that_fit : List Str := ["terms", "patterns", "table", "numbers", "fact", "name", "kinds", "acts"]
theorem c_facts_that_fit : FnScope n_facts_that_fit ["terms", "patterns", "table"] (defScope s_facts_that_fit) := ⟨rfl, rfl, rfl, by decide +kernel, rfl, by decide +kernel, by decide +kernel⟩
abbrev s_turned : Stmt := topS 44
abbrev n_turned : List Str := ["term"]
theorem c_turned : FnScope n_turned ["term"] (defScope s_turned) := ⟨rfl, rfl, rfl, by decide +kernel, rfl, by decide +kernel, by decide +kernel⟩
abbrev s_ways : Stmt := topS 45
abbrev n_ways : List Str := ["policy", "index", "found", "at", "_", "terms", "way", "term"]
theorem c_ways : FnScope n_ways ["policy", "index"] (defScope s_ways) := ⟨rfl, rfl, rfl, by decide +kernel, rfl, by decide +kernel, by decide +kernel⟩
abbrev s_check : Stmt := topS 46
abbrev n_check : List Str := ["policies", "policy"]
theorem c_check : FnScope n_check ["policies"] (defScope s_check) := ⟨rfl, rfl, rfl, by decide +kernel, rfl, by decide +kernel, by decide +kernel⟩
abbrev s_first_facts : Stmt := topS 47
abbrev n_first_facts : List Str := ["lists", "patterns", "table", "terms", "facts"]
theorem c_first_facts : FnScope n_first_facts ["lists", "patterns", "table"] (defScope s_first_facts) := ⟨rfl, rfl, rfl, by decide +kernel, rfl, by decide +kernel, by decide +kernel⟩
abbrev s_shadowed : Stmt := topS 48
abbrev n_shadowed : List Str := ["policy", "patterns", "table", "at"]
theorem c_shadowed : FnScope n_shadowed ["policy"] (defScope s_shadowed) := ⟨rfl, rfl, rfl, by decide +kernel, rfl, by decide +kernel, by decide +kernel⟩
abbrev s_verdict_of : Stmt := topS 49
abbrev n_verdict_of : List Str := ["policy", "index"]
theorem c_verdict_of : FnScope n_verdict_of ["policy", "index"] (defScope s_verdict_of) := ⟨rfl, rfl, rfl, by decide +kernel, rfl, by decide +kernel, by decide +kernel⟩
abbrev s_difference : Stmt := topS 50
abbrev n_difference : List Str := ["first", "second", "patterns", "table", "one", "fitting", "way", "other", "lists", "behind", "facts"]
theorem c_difference : FnScope n_difference ["first", "second"] (defScope s_difference) := ⟨rfl, rfl, rfl, by decide +kernel, rfl, by decide +kernel, by decide +kernel⟩
abbrev s_law_cell : Stmt := topS 52
abbrev n_law_cell : List Str := ["_law_script", "_law_k"]
theorem c_law_cell : FnScope n_law_cell ["_law_script", "_law_k"] (defScope s_law_cell) := ⟨rfl, rfl, rfl, by decide +kernel, rfl, by decide +kernel, by decide +kernel⟩
abbrev s_law_is_integer : Stmt := topS 53
abbrev n_law_is_integer : List Str := ["_law_actual"]
theorem c_law_is_integer : FnScope n_law_is_integer ["_law_actual"] (defScope s_law_is_integer) := ⟨rfl, rfl, rfl, by decide +kernel, rfl, by decide +kernel, by decide +kernel⟩
abbrev s_law_row : Stmt := topS 54
abbrev n_law_row : List Str := ["_law_cell_here", "_law_count", "_law_row_here", "_law_left", "_law_k", "_law_state"]
theorem c_law_row : FnScope n_law_row ["_law_cell_here", "_law_count"] (defScope s_law_row) := ⟨rfl, rfl, rfl, by decide +kernel, rfl, by decide +kernel, by decide +kernel⟩
abbrev s_law_is_row : Stmt := topS 55
abbrev n_law_is_row : List Str := ["_law_actual", "_law_count", "_law_byte"]
theorem c_law_is_row : FnScope n_law_is_row ["_law_actual", "_law_count"] (defScope s_law_is_row) := ⟨rfl, rfl, rfl, by decide +kernel, rfl, by decide +kernel, by decide +kernel⟩
abbrev s_law_kinds : Stmt := topS 56
abbrev n_law_kinds : List Str := []
theorem c_law_kinds : FnScope n_law_kinds [] (defScope s_law_kinds) := ⟨rfl, rfl, rfl, by decide +kernel, rfl, by decide +kernel, by decide +kernel⟩
abbrev s_law_acts : Stmt := topS 57
abbrev n_law_acts : List Str := []
theorem c_law_acts : FnScope n_law_acts [] (defScope s_law_acts) := ⟨rfl, rfl, rfl, by decide +kernel, rfl, by decide +kernel, by decide +kernel⟩
abbrev s_law_pattern : Stmt := topS 58
abbrev n_law_pattern : List Str := ["_law_cell_here", "_law_row_here", "_law_byte"]
theorem c_law_pattern : FnScope n_law_pattern ["_law_cell_here"] (defScope s_law_pattern) := ⟨rfl, rfl, rfl, by decide +kernel, rfl, by decide +kernel, by decide +kernel⟩
abbrev s_law_body : Stmt := topS 59
abbrev n_law_body : List Str := ["_law_cell_here", "_law_which", "_law_left", "_law_number"]
theorem c_law_body : FnScope n_law_body ["_law_cell_here"] (defScope s_law_body) := ⟨rfl, rfl, rfl, by decide +kernel, rfl, by decide +kernel, by decide +kernel⟩
abbrev s_law_term : Stmt := topS 60
abbrev n_law_term : List Str := ["_law_cell_here"]
theorem c_law_term : FnScope n_law_term ["_law_cell_here"] (defScope s_law_term) := ⟨rfl, rfl, rfl, by decide +kernel, rfl, by decide +kernel, by decide +kernel⟩
abbrev s_law_match : Stmt := topS 61
abbrev n_law_match : List Str := ["_law_pattern_here", "_law_name", "_law_row_here", "_law_byte", "_law_behind", "_law_open_yet", "_law_k"]
theorem c_law_match : FnScope n_law_match ["_law_pattern_here", "_law_name"] (defScope s_law_match) := ⟨rfl, rfl, rfl, by decide +kernel, rfl, by decide +kernel, by decide +kernel⟩
abbrev s_law_stands : Stmt := topS 62
abbrev n_law_stands : List Str := ["_law_number", "_law_sign", "_law_other"]
theorem c_law_stands : FnScope n_law_stands ["_law_number", "_law_sign", "_law_other"] (defScope s_law_stands) := ⟨rfl, rfl, rfl, by decide +kernel, rfl, by decide +kernel, by decide +kernel⟩
abbrev s_law_holds : Stmt := topS 63
abbrev n_law_holds : List Str := ["_law_term_here", "_law_facts", "_law_negated", "_law_body_here", "_law_found", "_law_numbers_here"]
theorem c_law_holds : FnScope n_law_holds ["_law_term_here", "_law_facts"] (defScope s_law_holds) := ⟨rfl, rfl, rfl, by decide +kernel, rfl, by decide +kernel, by decide +kernel⟩
abbrev s_law_judged : Stmt := topS 64
abbrev n_law_judged : List Str := ["_law_policy_here", "_law_facts", "_law_k", "_law_term_here"]
theorem c_law_judged : FnScope n_law_judged ["_law_policy_here", "_law_facts"] (defScope s_law_judged) := ⟨rfl, rfl, rfl, by decide +kernel, rfl, by decide +kernel, by decide +kernel⟩
abbrev s_law_policy : Stmt := topS 65
abbrev n_law_policy : List Str := ["_law_script", "_law_at", "_law_rules", "_law_terms", "_law_cell_here", "_law_policy_here", "_law_used", "_law_k", "_law_body_here", "_law_j"]
theorem c_law_policy : FnScope n_law_policy ["_law_script", "_law_at", "_law_rules", "_law_terms"] (defScope s_law_policy) := ⟨rfl, rfl, rfl, by decide +kernel, rfl, by decide +kernel, by decide +kernel⟩
abbrev s_law_opened : Stmt := topS 66
abbrev n_law_opened : List Str := ["_law_pattern_here", "_law_places", "_law_row_here", "_law_place"]
theorem c_law_opened : FnScope n_law_opened ["_law_pattern_here", "_law_places"] (defScope s_law_opened) := ⟨rfl, rfl, rfl, by decide +kernel, rfl, by decide +kernel, by decide +kernel⟩
abbrev s_law_stepped : Stmt := topS 67
abbrev n_law_stepped : List Str := ["_law_pattern_here", "_law_places", "_law_byte", "_law_behind", "_law_place"]
theorem c_law_stepped : FnScope n_law_stepped ["_law_pattern_here", "_law_places", "_law_byte"] (defScope s_law_stepped) := ⟨rfl, rfl, rfl, by decide +kernel, rfl, by decide +kernel, by decide +kernel⟩
abbrev s_law_patterns : Stmt := topS 68
abbrev n_law_patterns : List Str := ["_law_terms", "_law_patterns_here", "_law_negated", "_law_body_here"]
theorem c_law_patterns : FnScope n_law_patterns ["_law_terms"] (defScope s_law_patterns) := ⟨rfl, rfl, rfl, by decide +kernel, rfl, by decide +kernel, by decide +kernel⟩
abbrev s_law_states : Stmt := topS 69
abbrev n_law_states : List Str := ["_law_patterns_here", "_law_most", "_law_letters", "_law_pattern_here", "_law_byte", "_law_states_here", "_law_seen", "_law_at", "_law_turn", "_law_state", "_law_k"]
theorem c_law_states : FnScope n_law_states ["_law_patterns_here", "_law_most"] (defScope s_law_states) := ⟨rfl, rfl, rfl, by decide +kernel, rfl, by decide +kernel, by decide +kernel⟩
abbrev s_law_numbers : Stmt := topS 70
abbrev n_law_numbers : List Str := ["_law_terms", "_law_fact", "_law_greatest", "_law_numbers_here", "_law_negated", "_law_body_here"]
theorem c_law_numbers : FnScope n_law_numbers ["_law_terms", "_law_fact", "_law_greatest"] (defScope s_law_numbers) := ⟨rfl, rfl, rfl, by decide +kernel, rfl, by decide +kernel, by decide +kernel⟩
abbrev s_law_acts_lists : Stmt := topS 71
abbrev n_law_acts_lists : List Str := ["_law_terms", "_law_lists", "_law_named", "_law_negated", "_law_body_here", "_law_others", "_law_kind", "_law_kinds_here", "_law_bits", "_law_some", "_law_k", "_law_number"]
theorem c_law_acts_lists : FnScope n_law_acts_lists ["_law_terms"] (defScope s_law_acts_lists) := ⟨rfl, rfl, rfl, by decide +kernel, rfl, by decide +kernel, by decide +kernel⟩
abbrev s_law_kind_pairs : Stmt := topS 72
abbrev n_law_kind_pairs : List Str := ["_law_pairs", "_law_first", "_law_rest"]
theorem c_law_kind_pairs : FnScope n_law_kind_pairs [] (defScope s_law_kind_pairs) := ⟨rfl, rfl, rfl, by decide +kernel, rfl, by decide +kernel, by decide +kernel⟩
abbrev s_law_rows : Stmt := topS 73
abbrev n_law_rows : List Str := ["_law_terms", "_law_words", "_law_many", "_law_picked", "_law_k", "_law_rows_here", "_law_facts", "_law_row_here"]
theorem c_law_rows : FnScope n_law_rows ["_law_terms", "_law_words", "_law_many"] (defScope s_law_rows) := ⟨rfl, rfl, rfl, by decide +kernel, rfl, by decide +kernel, by decide +kernel⟩
abbrev s_law_name_rows : Stmt := topS 74
abbrev n_law_name_rows : List Str := ["_law_terms", "_law_patterns_here", "_law_picked", "_law_k", "_law_rows_here", "_law_state", "_law_found", "_law_j", "_law_row_here"]
theorem c_law_name_rows : FnScope n_law_name_rows ["_law_terms"] (defScope s_law_name_rows) := ⟨rfl, rfl, rfl, by decide +kernel, rfl, by decide +kernel, by decide +kernel⟩
abbrev s_law_choices : Stmt := topS 75
abbrev n_law_choices : List Str := ["_law_terms", "_law_parts", "_law_n", "_law_pair", "_law_acts_here", "_law_choices_here", "_law_part", "_law_longer", "_law_row_here", "_law_choice", "_law_found", "_law_truth", "_law_k", "_law_value"]
theorem c_law_choices : FnScope n_law_choices ["_law_terms"] (defScope s_law_choices) := ⟨rfl, rfl, rfl, by decide +kernel, rfl, by decide +kernel, by decide +kernel⟩
abbrev s_law_decider : Stmt := topS 76
abbrev n_law_decider : List Str := ["_law_policy_here", "_law_truth", "_law_first", "_law_at", "_law_k", "_law_count"]
theorem c_law_decider : FnScope n_law_decider ["_law_policy_here", "_law_truth", "_law_first"] (defScope s_law_decider) := ⟨rfl, rfl, rfl, by decide +kernel, rfl, by decide +kernel, by decide +kernel⟩
abbrev s_law_all_terms : Stmt := topS 77
abbrev n_law_all_terms : List Str := ["_law_policies", "_law_terms", "_law_policy_here", "_law_verdict_here", "_law_row_here"]
theorem c_law_all_terms : FnScope n_law_all_terms ["_law_policies"] (defScope s_law_all_terms) := ⟨rfl, rfl, rfl, by decide +kernel, rfl, by decide +kernel, by decide +kernel⟩
abbrev s_law_is_sound : Stmt := topS 78
abbrev n_law_is_sound : List Str := ["_law_facts", "_law_byte", "_law_k", "_law_number", "_law_word"]
theorem c_law_is_sound : FnScope n_law_is_sound ["_law_facts"] (defScope s_law_is_sound) := ⟨rfl, rfl, rfl, by decide +kernel, rfl, by decide +kernel, by decide +kernel⟩
abbrev s_law_second : Stmt := topS 79
abbrev n_law_second : List Str := ["_law_script", "_law_policy_here", "_law_cell_here", "_law_which", "_law_at"]
theorem c_law_second : FnScope n_law_second ["_law_script", "_law_policy_here"] (defScope s_law_second) := ⟨rfl, rfl, rfl, by decide +kernel, rfl, by decide +kernel, by decide +kernel⟩
abbrev s_law_verdict : Stmt := topS 80
abbrev n_law_verdict : List Str := ["_law_policy_here", "_law_decider_here"]
theorem c_law_verdict : FnScope n_law_verdict ["_law_policy_here", "_law_decider_here"] (defScope s_law_verdict) := ⟨rfl, rfl, rfl, by decide +kernel, rfl, by decide +kernel, by decide +kernel⟩
abbrev s_law : Stmt := topS 81
abbrev n_law : List Str := ["_law_script", "_law_first", "_law_second_here", "_law_terms", "_law_start", "_law_differ", "_law_truth", "_law_one", "_law_left", "_law_right", "_law_facts", "_law_hidden", "_law_shorter", "_law_k"]
theorem c_law : FnScope n_law ["_law_script"] (defScope s_law) := ⟨rfl, rfl, rfl, by decide +kernel, rfl, by decide +kernel, by decide +kernel⟩
end Z
set_option Elab.async false
set_option linter.all false
set_option maxRecDepth 100000
set_option maxHeartbeats 0
/-! The head: the top run in the kernel, its facts by names. Printed by gen_head.py. -/
namespace Z
open PySem PySem.Spec PyProof.Rows L2
def hd (x : Str) (st : Stmt) : He.DefD := ⟨(x, none), x, x, defArgs st, defBody st, defScope st, [], []⟩
def hfn0 : List He.DefD := [hd "_law_cell" s_law_cell, hd "_law_kinds" s_law_kinds, hd "_law_acts" s_law_acts, hd "_law_row" s_law_row, hd "_law_pattern" s_law_pattern, hd "_law_body" s_law_body, hd "_law_term" s_law_term, hd "_law_policy" s_law_policy, hd "_law_second" s_law_second, hd "_law_all_terms" s_law_all_terms, hd "_law_match" s_law_match, hd "_law_stands" s_law_stands, hd "_law_holds" s_law_holds, hd "_law_rows" s_law_rows, hd "_law_numbers" s_law_numbers, hd "_law_kind_pairs" s_law_kind_pairs, hd "_law_acts_lists" s_law_acts_lists, hd "_law_patterns" s_law_patterns, hd "_law_opened" s_law_opened, hd "_law_stepped" s_law_stepped, hd "_law_states" s_law_states, hd "_law_name_rows" s_law_name_rows, hd "_law_choices" s_law_choices, hd "_law_verdict" s_law_verdict, hd "_law_decider" s_law_decider, hd "is_integer" s_is_integer, hd "is_between" s_is_between, hd "is_word" s_is_word, hd "is_pattern" s_is_pattern, hd "is_body" s_is_body]
def hfn1 : List He.DefD := [hd "is_term" s_is_term, hd "is_rule" s_is_rule, hd "is_policy" s_is_policy, hd "check" s_check, hd "patterns_of" s_patterns_of, hd "opened" s_opened, hd "moved" s_moved, hd "name_table" s_name_table, hd "about" s_about, hd "numbers_for" s_numbers_for, hd "stands" s_stands, hd "number_of" s_number_of, hd "matches" s_matches, hd "holds" s_holds, hd "all_hold" s_all_hold, hd "number_that_fits" s_number_that_fits, hd "name_that_fits" s_name_that_fits, hd "kind_choices" s_kind_choices, hd "kinds_that_fit" s_kinds_that_fit, hd "acts_that_fit" s_acts_that_fit, hd "facts_that_fit" s_facts_that_fit, hd "first_facts" s_first_facts, hd "turned" s_turned, hd "ways" s_ways, hd "verdict_of" s_verdict_of, hd "difference" s_difference, hd "_law_is_integer" s_law_is_integer, hd "_law_is_sound" s_law_is_sound, hd "_law_judged" s_law_judged, hd "shadowed" s_shadowed]
def hfn2 : List He.DefD := [hd "law" s_law]
def hfn : List He.DefD := hfn0 ++ (hfn1 ++ (hfn2))
def hfa0 : List He.Fa := [.glo "_law_cell", .glo "_law_kinds", .glo "_law_acts", .glo "_law_row", .glo "_law_pattern", .glo "_law_body", .glo "_law_term", .glo "_law_policy", .glo "_law_second", .glo "_law_all_terms", .glo "_law_match", .glo "_law_stands", .glo "_law_holds", .glo "_law_rows", .glo "_law_numbers", .glo "_law_kind_pairs", .glo "_law_acts_lists", .glo "_law_patterns", .glo "_law_opened", .glo "_law_stepped", .glo "_law_states", .glo "_law_name_rows", .glo "_law_choices", .glo "_law_verdict", .glo "_law_decider", .glo "is_integer", .glo "is_between", .glo "is_word", .glo "is_pattern", .glo "is_body"]
def hfa1 : List He.Fa := [.glo "is_term", .glo "is_rule", .glo "is_policy", .glo "check", .glo "patterns_of", .glo "opened", .glo "moved", .glo "name_table", .glo "about", .glo "numbers_for", .glo "stands", .glo "number_of", .glo "matches", .glo "holds", .glo "all_hold", .glo "number_that_fits", .glo "name_that_fits", .glo "kind_choices", .glo "kinds_that_fit", .glo "acts_that_fit", .glo "facts_that_fit", .glo "first_facts", .glo "turned", .glo "ways", .glo "verdict_of", .glo "difference", .glo "_law_is_integer", .glo "_law_is_sound", .glo "_law_judged", .glo "shadowed"]
def hfa2 : List He.Fa := [.glo "law", .free "len", .free "int", .free "abs", .free "tuple", .free "list", .free "sorted", .free "all", .free "min", .free "max", .free "isinstance", .free "range", .free "enumerate", .free "zip", .free "bool", .free "str", .int "MOST_PATTERN" 20, .int "MOST_TERMS" 3, .int "MOST_RULES" 4, .int "STAR" 42, .int "MOST_STATES" 512, .int "MOST_ACTS" 1000, .glo "KINDS", .glo "SIGNS", .glo "VERDICTS", .glo "ACTS", .glo "MOST", .glo "GREATEST"]
def hfa : List He.Fa := hfa0 ++ (hfa1 ++ (hfa2))
def hloose0 : List Str := ["__name__", "StillroomError", "Malformed", "TooMuch", "KINDS", "SIGNS", "VERDICTS", "ACTS", "MOST", "GREATEST", "MOST_PATTERN", "MOST_TERMS", "MOST_RULES", "STAR", "MOST_STATES", "MOST_ACTS", "_law_cell", "_law_kinds", "_law_acts", "_law_row", "_law_pattern", "_law_body", "_law_term", "_law_policy", "_law_second", "_law_all_terms", "_law_match", "_law_stands", "_law_holds", "_law_rows"]
def hloose1 : List Str := ["_law_numbers", "_law_kind_pairs", "_law_acts_lists", "_law_patterns", "_law_opened", "_law_stepped", "_law_states", "_law_name_rows", "_law_choices", "_law_verdict", "_law_decider", "is_integer", "is_between", "is_word", "is_pattern", "is_body", "is_term", "is_rule", "is_policy", "check", "patterns_of", "opened", "moved", "name_table", "about", "numbers_for", "stands", "number_of", "matches", "holds"]
def hloose2 : List Str := ["all_hold", "number_that_fits", "name_that_fits", "kind_choices", "kinds_that_fit", "acts_that_fit", "facts_that_fit", "first_facts", "turned", "ways", "verdict_of", "difference", "_law_is_integer", "_law_is_sound", "_law_judged", "shadowed", "_law_is_row"]
def hloose : List Str := hloose0 ++ (hloose1 ++ (hloose2))
def hts : List He.Tab := [((fun K => He.ga K "MOST"), ["size", "pages", "acts", "depth"]), ((fun K => He.ga K "GREATEST"), ["size", "pages", "depth"])]
def hex (K : PySem.W.Frag) : Bool := (He.tupB K "KINDS" [.str "still", .str "picture", .str "film", .str "sheet", .str "folio", .str "crate"] && (He.tupB K "SIGNS" [.str "<", .str "<=", .str "=", .str ">=", .str ">"] && (He.tupB K "VERDICTS" [.str "clean", .str "hold", .str "drop"] && (He.tupB K "ACTS" [.str "open", .str "file", .str "link", .str "form", .str "fetch", .str "script"] && (He.valsB K (He.ga K "MOST") [("size", .int 2147483647), ("pages", .int 100), ("acts", .int 100), ("depth", .int 100)] && (He.eqO (PySem.W.nsIn K (He.ga K "MOST") "is") (some none) && (He.eqO (PySem.W.nsIn K (He.ga K "MOST") "could") (some none) && (He.eqO (PySem.W.nsIn K (He.ga K "MOST") "act") (some none) && (He.eqO (PySem.W.nsIn K (He.ga K "MOST") "name") (some none) && He.valsB K (He.ga K "GREATEST") [("size", .int 2147483647), ("pages", .int 8), ("depth", .int 4)])))))))))
abbrev hR : PySem.W.OpenRow := PySem.W.OpenLaw.row PySem.Challenge.rw_stillroom_k76_whole_differences
abbrev hq : Program := PySem.W.view hR.prog [81]
abbrev hk : PySem.W.Hook := He.hookX 2 hfa hfn hts [] hex
def hob (s : PySem.W.SharedT) : He.AlX := He.obsX 2 hfa hfn hts [] hex (HandSHeadRun.getT s)
theorem hob_eq (s : PySem.W.SharedT) : hob s = hk.obs s.abs := He.obsX_eq (HandSHeadRun.getT_eq s)
theorem hrunF (w : World) : HandSHeadRun.RunEq hR hq hk hob 4000 hloose (w.withFollow "special-get-raises" false) := by
  intro os
  kernel_rfl
theorem hrunT (w : World) : HandSHeadRun.RunEq hR hq hk hob 4000 hloose (w.withFollow "special-get-raises" true) := by
  intro os
  kernel_rfl
theorem hrun (w : World) : HandSHeadRun.RunEq hR hq hk hob 4000 hloose w := PySem.W.byRow2 "special-get-raises" (P := fun w => HandSHeadRun.RunEq hR hq hk hob 4000 hloose w) hrunF hrunT w
end Z
set_option Elab.async false
set_option linter.all false
set_option maxRecDepth 100000
set_option maxHeartbeats 2000000
/-! The program's defs as plain functions of plain data, and the data as the model's. -/
namespace Z
open PySem
abbrev Bts := List Nat
inductive NF where | size | pages | acts | depth deriving DecidableEq
inductive Sg where | lt | le | eq | ge | gt deriving DecidableEq
inductive Kd where | no | still | picture | film | sheet | folio | crate deriving DecidableEq
inductive Ac where | open_ | file | link | form | fetch | script deriving DecidableEq
inductive Vd where | clean | hold | drop deriving DecidableEq
def NF.str : NF → Str | .size => "size" | .pages => "pages" | .acts => "acts" | .depth => "depth"
def Sg.str : Sg → Str | .lt => "<" | .le => "<=" | .eq => "=" | .ge => ">=" | .gt => ">"
def Kd.str : Kd → Str | .no => "" | .still => "still" | .picture => "picture" | .film => "film" | .sheet => "sheet" | .folio => "folio" | .crate => "crate"
def Ac.str : Ac → Str | .open_ => "open" | .file => "file" | .link => "link" | .form => "form" | .fetch => "fetch" | .script => "script"
def Vd.str : Vd → Str | .clean => "clean" | .hold => "hold" | .drop => "drop"
inductive Bd where
  | num (f : NF) (s : Sg) (n : Int)
  | isk (k : Kd)
  | could (k : Kd)
  | act (a : Ac)
  | nam (p : Bts)
  deriving DecidableEq
structure Tm where
  neg : Bool
  body : Bd
  deriving DecidableEq
structure Rl where
  v : Vd
  ts : List Tm
  deriving DecidableEq
structure Fx where
  name : Bts
  size : Int
  kind : Kd
  kinds : List Kd
  pages : Int
  acts : List Ac
  depth : Int
  deriving DecidableEq
/-! ### as the model's data -/
abbrev dN (n : Nat) : PyData := .int n
def dNs (l : Bts) : PyData := .tuple (l.map dN)
def dKs (l : List Kd) : PyData := .tuple (l.map fun k => .str k.str)
def dAs (l : List Ac) : PyData := .tuple (l.map fun k => .str k.str)
def Bd.word : Bd → Str
  | .num f _ _ => f.str
  | .isk _ => "is"
  | .could _ => "could"
  | .act _ => "act"
  | .nam _ => "name"
def dB : Bd → PyData
  | .num f s n => .tuple [.str f.str, .str s.str, .int n]
  | .isk k => .tuple [.str "is", .str k.str]
  | .could k => .tuple [.str "could", .str k.str]
  | .act a => .tuple [.str "act", .str a.str]
  | .nam p => .tuple [.str "name", dNs p]
def dT (t : Tm) : PyData := .tuple [.bool t.neg, dB t.body]
def dR (r : Rl) : PyData := .tuple [.str r.v.str, .tuple (r.ts.map dT)]
def dP (p : List Rl) : PyData := .tuple (p.map dR)
def dF (f : Fx) : PyData := .tuple [dNs f.name, .int f.size, .str f.kind.str, dKs f.kinds, .int f.pages, dAs f.acts, .int f.depth]
def dO {α : Type} (g : α → PyData) : Option α → PyData
  | none => .none
  | some a => g a
/-! ### the program -/
def opnB (p pl : Bts) (j : Nat) : Bool := pl.any fun i => decide (i ≤ j) && ((p.drop i).take (j - i)).all (· == 42)
def opn (p pl : Bts) : Bts := (List.range (p.length + 1)).filter (opnB p pl)
def tgt (p pl : Bts) (b : Nat) : Bts := pl.filterMap fun i => match p[i]? with
  | some c => if c = 42 then some i else if c = b then some (i + 1) else none
  | none => none
def mvd (p pl : Bts) (b : Nat) : Bts := opn p (tgt p pl b)
def mt (p name : Bts) : Bool := decide (p.length ∈ name.foldl (mvd p) (opn p [0]))
def stM (a : Int) (s : Sg) (b : Int) : Bool := match s with
  | .eq => decide (a = b)
  | .lt => decide (a < b)
  | .le => decide (a < b) || decide (a = b)
  | .gt => decide (a > b)
  | .ge => decide (a > b) || decide (a = b)
def Fx.num (f : Fx) : NF → Int
  | .size => f.size
  | .pages => f.pages
  | .acts => f.acts.length
  | .depth => f.depth
def hb (b : Bd) (f : Fx) : Bool := match b with
  | .num g s n => stM (f.num g) s n
  | .isk k => decide (f.kind = k)
  | .could k => decide (k ∈ f.kinds)
  | .act a => decide (a ∈ f.acts)
  | .nam p => mt p f.name
def hM (t : Tm) (f : Fx) : Bool := hb t.body f != t.neg
end Z
set_option Elab.async false
set_option linter.all false
set_option maxRecDepth 100000
set_option maxHeartbeats 2000000
/-! Short forms of the rules. -/
namespace Z
open PySem PySem.Spec PyProof.Rows L2 Evl
def prj (i : Nat) : PyData → PyData
  | .tuple ds => ds.getD i .none
  | _ => .none
section
variable {X : Cx} {P : Program} {w : World} {K : PySem.W.Frag} {mg : Str → Option Value} {base : Heap} {N : List Str} {sc scope : Scope} {k : Nat}
variable {Γ Γ' : List Sl} {e elt iter iter1 tg tg1 a b c e1 e2 e3 e4 e5 : Expr} {es ifs ifs1 : List Expr} {d x y z d1 d2 d3 d4 d5 : PyData} {ds : List PyData} {pos p px py cp : Pos} {is js : List Nat} {g g1 : TG} {κ : Kt} {st : Stmt} {sts rest body : List Stmt} {nm1 nm2 : Str} {v : Bool}
theorem nm (F : XF X P w K mg base N sc k) (i : Nat) {x : Str} {pos : Pos} (hN : N[i]? = some x := by rfl) (hv : visB sc x = true := by rfl) (h : Γ[i]? = some (.dat d) := by rfl) (hd : (x == ("__debug__" : Str)) = false := by decide) (hcd : (x == ("__classdict__" : Str)) = false := by decide) : E X Γ (.Name x pos) d := e_name F i hN hv h hd hcd
theorem src_seq (h : E X Γ e x) (hx : x = .tuple ds ∨ x = .list ds) : Src X Γ tg e ds := by
  rcases hx with rfl | rfl
  · exact src_tup h
  · exact src_list h
/-! #### calls of defs -/
section
variable {f : Str} {j : Nat} {dom : List PyData → PyData → Prop}
theorem ca1 (F : XF X P w K mg base N sc k) (hf : FnF P w K mg base f j dom) (h1 : E X Γ e1 d1) (hd : dom [d1] z) (hj : j ≤ k := by decide) (hg : glB sc f = true := by rfl) (hdb : (f == ("__debug__" : Str)) = false := by decide) (s1 : starEach [e1] X.env = [(false, eval e1 X.env)] := by rfl) : E X Γ (.Call (.Name f p) [e1] [] pos) z :=
  e_call F hf hj hg (as_cons h1 as_nil s1) hd hdb s1 (by rfl)
theorem ca2 (F : XF X P w K mg base N sc k) (hf : FnF P w K mg base f j dom) (h1 : E X Γ e1 d1) (h2 : E X Γ e2 d2) (hd : dom [d1, d2] z) (hj : j ≤ k := by decide) (hg : glB sc f = true := by rfl) (hdb : (f == ("__debug__" : Str)) = false := by decide)
    (s1 : starEach [e1, e2] X.env = (false, eval e1 X.env) :: starEach [e2] X.env := by rfl) (s2 : starEach [e2] X.env = [(false, eval e2 X.env)] := by rfl) : E X Γ (.Call (.Name f p) [e1, e2] [] pos) z :=
  e_call F hf hj hg (as_cons h1 (as_cons h2 as_nil s2) s1) hd hdb s1 (by rw [s2]; rfl)
theorem ca3 (F : XF X P w K mg base N sc k) (hf : FnF P w K mg base f j dom) (h1 : E X Γ e1 d1) (h2 : E X Γ e2 d2) (h3 : E X Γ e3 d3) (hd : dom [d1, d2, d3] z) (hj : j ≤ k := by decide) (hg : glB sc f = true := by rfl) (hdb : (f == ("__debug__" : Str)) = false := by decide)
    (s1 : starEach [e1, e2, e3] X.env = (false, eval e1 X.env) :: starEach [e2, e3] X.env := by rfl) (s2 : starEach [e2, e3] X.env = (false, eval e2 X.env) :: starEach [e3] X.env := by rfl) (s3 : starEach [e3] X.env = [(false, eval e3 X.env)] := by rfl) : E X Γ (.Call (.Name f p) [e1, e2, e3] [] pos) z :=
  e_call F hf hj hg (as_cons h1 (as_cons h2 (as_cons h3 as_nil s3) s2) s1) hd hdb s1 (by rw [s2, s3]; rfl)
theorem ca4 (F : XF X P w K mg base N sc k) (hf : FnF P w K mg base f j dom) (h1 : E X Γ e1 d1) (h2 : E X Γ e2 d2) (h3 : E X Γ e3 d3) (h4 : E X Γ e4 d4) (hd : dom [d1, d2, d3, d4] z) (hj : j ≤ k := by decide) (hg : glB sc f = true := by rfl) (hdb : (f == ("__debug__" : Str)) = false := by decide)
    (s1 : starEach [e1, e2, e3, e4] X.env = (false, eval e1 X.env) :: starEach [e2, e3, e4] X.env := by rfl) (s2 : starEach [e2, e3, e4] X.env = (false, eval e2 X.env) :: starEach [e3, e4] X.env := by rfl) (s3 : starEach [e3, e4] X.env = (false, eval e3 X.env) :: starEach [e4] X.env := by rfl) (s4 : starEach [e4] X.env = [(false, eval e4 X.env)] := by rfl) : E X Γ (.Call (.Name f p) [e1, e2, e3, e4] [] pos) z :=
  e_call F hf hj hg (as_cons h1 (as_cons h2 (as_cons h3 (as_cons h4 as_nil s4) s3) s2) s1) hd hdb s1 (by rw [s2, s3, s4]; rfl)
theorem ca0 (F : XF X P w K mg base N sc k) (hf : FnF P w K mg base f j dom) (hd : dom [] z) (hj : j ≤ k := by decide) (hg : glB sc f = true := by rfl) (hdb : (f == ("__debug__" : Str)) = false := by decide) : E X Γ (.Call (.Name f p) [] [] pos) z := e_call0 F hf hj hg hd hdb
end
/-! #### displays -/
theorem tu1 {x1} (h1 : E X Γ e1 d1) (s1 : starEach [e1] X.env = [(false, eval e1 X.env)] := by rfl) : E X Γ (.Tuple [e1] x1 pos) (.tuple [d1]) := e_tup (as_cons h1 as_nil s1) (by simp)
theorem tu2 {x1} (h1 : E X Γ e1 d1) (h2 : E X Γ e2 d2) (s1 : starEach [e1, e2] X.env = (false, eval e1 X.env) :: starEach [e2] X.env := by rfl) (s2 : starEach [e2] X.env = [(false, eval e2 X.env)] := by rfl) : E X Γ (.Tuple [e1, e2] x1 pos) (.tuple [d1, d2]) := e_tup (as_cons h1 (as_cons h2 as_nil s2) s1) (by simp)
theorem tu3 {x1} (h1 : E X Γ e1 d1) (h2 : E X Γ e2 d2) (h3 : E X Γ e3 d3) (s1 : starEach [e1, e2, e3] X.env = (false, eval e1 X.env) :: starEach [e2, e3] X.env := by rfl) (s2 : starEach [e2, e3] X.env = (false, eval e2 X.env) :: starEach [e3] X.env := by rfl) (s3 : starEach [e3] X.env = [(false, eval e3 X.env)] := by rfl) : E X Γ (.Tuple [e1, e2, e3] x1 pos) (.tuple [d1, d2, d3]) :=
  e_tup (as_cons h1 (as_cons h2 (as_cons h3 as_nil s3) s2) s1) (by simp)
theorem li0 : E X Γ (.List [] pos) (.list []) := e_list as_nil (by decide)
theorem li1 (h1 : E X Γ e1 d1) (s1 : starEach [e1] X.env = [(false, eval e1 X.env)] := by rfl) : E X Γ (.List [e1] pos) (.list [d1]) := e_list (as_cons h1 as_nil s1) (by simp)
theorem li2 (h1 : E X Γ e1 d1) (h2 : E X Γ e2 d2) (s1 : starEach [e1, e2] X.env = (false, eval e1 X.env) :: starEach [e2] X.env := by rfl) (s2 : starEach [e2] X.env = [(false, eval e2 X.env)] := by rfl) : E X Γ (.List [e1, e2] pos) (.list [d1, d2]) := e_list (as_cons h1 (as_cons h2 as_nil s2) s1) (by simp)
theorem tu0 {x1} : E X Γ (.Tuple [] x1 pos) (.tuple []) := e_tup as_nil (by decide)
/-! #### targets -/
theorem tgd2 {K : PySem.W.Frag} {i j : Nat} (hp : d = .tuple [d1, d2]) : Tgd K (gTup K 2 (gCons (gName i) (gCons (gName j) gNil))) d Γ ((Γ.set i (.dat d1)).set j (.dat d2)) [i, j] := by
  subst hp
  exact tgd_tup (is := [i] ++ ([j] ++ [])) (tgsd_cons (tgd_name i) (tgsd_cons (tgd_name j) tgsd_nil)) rfl
theorem pg2 (F : XF X P w K mg base N sc k) (xd : XD X) (i j : Nat) {x y : Str} {cx pt} (hN : N[i]? = some x) (hl : locB sc x = true) (hN2 : N[j]? = some y) (hl2 : locB sc y = true) : PG X (.Tuple [.Name x px, .Name y py] cx pt) (gTup K 2 (gCons (gName i) (gCons (gName j) gNil))) := by
  have := pg_tup (X := X) (n := 2) (pos := pt) (k := cx) F.calm (pgs_cons (pg_nm (pos := px) F xd i hN hl) (pgs_cons (pg_nm (pos := py) F xd j hN2 hl2) pgs_nil))
  rwa [F.hK] at this
theorem pg2B (F : XF X P w K mg base N sc k) (i j : Nat) {x y : Str} {cx pt} (hN : N[i]? = some x) (hl : lclB sc x = true) (hN2 : N[j]? = some y) (hl2 : lclB sc y = true) : PG X (.Tuple [.Name x px, .Name y py] cx pt) (gTup K 2 (gCons (gName i) (gCons (gName j) gNil))) := by
  have := pg_tup (X := X) (n := 2) (pos := pt) (k := cx) F.calm (pgs_cons (pg_nmB (pos := px) F i hN hl) (pgs_cons (pg_nmB (pos := py) F j hN2 hl2) pgs_nil))
  rwa [F.hK] at this
/-! #### comprehensions with a name, with two names -/
theorem lcN {α : Type} (F : XF X P w K mg base N sc k) (i : Nat) (xs : List α) (enc : α → PyData) {x : Str} (hs : Src X Γ (.Name x px) iter (xs.map enc)) (f : α → Bool) (h : α → PyData)
    (ht : ∀ Y, XF Y P w K mg base N (relS scope sc) k → ∀ d ∈ xs, Tis Y (Γ.set i (.dat (enc d))) ifs (f d)) (he : ∀ Y, XF Y P w K mg base N (relS scope sc) k → ∀ d ∈ xs, f d = true → E Y (Γ.set i (.dat (enc d))) elt (h d))
    (hz : xs.length ≤ 100000) (ok : blkC N sc scope [(x, i)] = true := by decide +kernel) (hN : N[i]? = some x := by rfl) (hl : lclB (relS scope sc) x = true := by rfl) (hfs : ∀ x, foldedSetIterable iter X.env x = pure x := by intro _; rfl) : E X Γ (.ListComp elt [⟨.Name x px, iter, ifs, 0⟩] scope pos) (.list ((xs.filter f).map h)) :=
  e_lc (is := [i]) F [(x, i)] ok xs enc hs hz f h (fun d => Γ.set i (.dat (enc d))) (by simp) (fun Y FY => pg_nmB FY i hN hl) (fun d _ => by
    have := tgd_name (K := K) (d := enc d) (Γ := wipeG Γ ([(x, i)].map (·.2))) i
    simpa [wipeG, List.set_set] using this) ht he hfs
/-- all of it -/
theorem lcA {α : Type} (F : XF X P w K mg base N sc k) (i : Nat) (xs : List α) (enc : α → PyData) {x : Str} (hs : Src X Γ (.Name x px) iter (xs.map enc)) (h : α → PyData) (he : ∀ Y, XF Y P w K mg base N (relS scope sc) k → ∀ d ∈ xs, E Y (Γ.set i (.dat (enc d))) elt (h d))
    (hz : xs.length ≤ 100000) (ok : blkC N sc scope [(x, i)] = true := by decide +kernel) (hN : N[i]? = some x := by rfl) (hl : lclB (relS scope sc) x = true := by rfl) (hfs : ∀ x, foldedSetIterable iter X.env x = pure x := by intro _; rfl) : E X Γ (.ListComp elt [⟨.Name x px, iter, [], 0⟩] scope pos) (.list (xs.map h)) := by
  have := lcN (pos := pos) (ifs := []) F i xs enc hs (fun _ => true) h (fun Y FY d hd => .nil) (fun Y FY d hd _ => he Y FY d hd) hz ok hN hl hfs
  rwa [List.filter_eq_self.mpr fun _ _ => rfl] at this
theorem lcN2 {α : Type} (F : XF X P w K mg base N sc k) (i j : Nat) (xs : List α) (ea eb : α → PyData) {x y : Str} {cx pt} (hs : Src X Γ (.Tuple [.Name x px, .Name y py] cx pt) iter (xs.map fun a => .tuple [ea a, eb a])) (f : α → Bool) (h : α → PyData)
    (ht : ∀ Y, XF Y P w K mg base N (relS scope sc) k → ∀ d ∈ xs, Tis Y (((wipeG Γ [i, j]).set i (.dat (ea d))).set j (.dat (eb d))) ifs (f d)) (he : ∀ Y, XF Y P w K mg base N (relS scope sc) k → ∀ d ∈ xs, f d = true → E Y (((wipeG Γ [i, j]).set i (.dat (ea d))).set j (.dat (eb d))) elt (h d))
    (hz : xs.length ≤ 100000) (ok : blkC N sc scope [(x, i), (y, j)] = true := by decide +kernel) (hN : N[i]? = some x := by rfl) (hl : lclB (relS scope sc) x = true := by rfl) (hN2 : N[j]? = some y := by rfl) (hl2 : lclB (relS scope sc) y = true := by rfl) (hfs : ∀ x, foldedSetIterable iter X.env x = pure x := by intro _; rfl) :
    E X Γ (.ListComp elt [⟨.Tuple [.Name x px, .Name y py] cx pt, iter, ifs, 0⟩] scope pos) (.list ((xs.filter f).map h)) :=
  e_lc (is := [i, j]) F [(x, i), (y, j)] ok xs _ hs hz f h (fun d => ((wipeG Γ [i, j]).set i (.dat (ea d))).set j (.dat (eb d))) (by simp) (fun Y FY => pg2B FY i j hN hl hN2 hl2) (fun d hd => tgd2 rfl) ht he hfs
theorem lcA2 {α : Type} (F : XF X P w K mg base N sc k) (i j : Nat) (xs : List α) (ea eb : α → PyData) {x y : Str} {cx pt} (hs : Src X Γ (.Tuple [.Name x px, .Name y py] cx pt) iter (xs.map fun a => .tuple [ea a, eb a])) (h : α → PyData)
    (he : ∀ Y, XF Y P w K mg base N (relS scope sc) k → ∀ d ∈ xs, E Y (((wipeG Γ [i, j]).set i (.dat (ea d))).set j (.dat (eb d))) elt (h d))
    (hz : xs.length ≤ 100000) (ok : blkC N sc scope [(x, i), (y, j)] = true := by decide +kernel) (hN : N[i]? = some x := by rfl) (hl : lclB (relS scope sc) x = true := by rfl) (hN2 : N[j]? = some y := by rfl) (hl2 : lclB (relS scope sc) y = true := by rfl) (hfs : ∀ x, foldedSetIterable iter X.env x = pure x := by intro _; rfl) :
    E X Γ (.ListComp elt [⟨.Tuple [.Name x px, .Name y py] cx pt, iter, [], 0⟩] scope pos) (.list (xs.map h)) := by
  have := lcN2 (pos := pos) (ifs := []) F i j xs ea eb hs (fun _ => true) h (fun Y FY d hd => .nil) (fun Y FY d hd _ => he Y FY d hd) hz ok hN hl hN2 hl2 hfs
  rwa [List.filter_eq_self.mpr fun _ _ => rfl] at this
/-- all([..]) -/
theorem allOf {α : Type} (F : XF X P w K mg base N sc k) (bn : BN mg) (xs : List α) (q : α → Bool) (ha : E X Γ a (.list (xs.map fun d => .bool (q d)))) (hg : glB sc "all" = true := by rfl) (he : starEach [a] X.env = [(false, eval a X.env)] := by rfl) : E X Γ (.Call (.Name "all" p) [a] [] pos) (.bool (xs.all q)) := by
  have := e_all (pos := pos) (p := p) (bs := xs.map q) F bn (by rwa [List.map_map]) hg he
  rwa [List.all_map] at this
/-! #### statements -/
theorem ret (h : E X Γ e d) (hr : κ.rt d) : Ss X Γ (.Return (some e) pos :: rest) κ := ss_cons (s_ret h hr)
theorem set_ (F : XF X P w K mg base N sc k) (xd : XD X) (i : Nat) {x : Str} (he : E X Γ e d) (h : Ss X (Γ.set i (.dat d)) rest κ) (hN : N[i]? = some x := by rfl) (hl : locB sc x = true := by rfl) (hs : swapsWith e (some (.Name x p)) pos.line X.env = pure false := by rfl) : Ss X Γ (.Assign [.Name x p] e pos :: rest) κ := ss_cons (s_set F xd i he hN hl h hs)
theorem setF (F : XF X P w K mg base N sc k) (xd : XD X) (i : Nat) {x : Str} (he : Ef X Γ e ds) (h : Ss X (Γ.set i (.ob (oL X.K ds))) rest κ) (hN : N[i]? = some x := by rfl) (hl : locB sc x = true := by rfl) (hs : swapsWith e (some (.Name x p)) pos.line X.env = pure false := by rfl) : Ss X Γ (.Assign [.Name x p] e pos :: rest) κ := ss_cons (s_setF F xd i he hN hl h hs)
theorem if_ {v : Bool} {sa sb : List Stmt} (h : T X Γ c v) (h1 : v = true → Ss X Γ sa { κ with nx := fun Γ' => Ss X Γ' rest κ }) (h2 : v = false → Ss X Γ sb { κ with nx := fun Γ' => Ss X Γ' rest κ }) : Ss X Γ (.If c sa sb pos :: rest) κ := ss_cons (s_if h h1 h2)
/-- an if without else -/
theorem when_ {v : Bool} {sa : List Stmt} (h : T X Γ c v) (h1 : v = true → Ss X Γ sa { κ with nx := fun Γ' => Ss X Γ' rest κ }) (h2 : v = false → Ss X Γ rest κ) : Ss X Γ (.If c sa [] pos :: rest) κ := ss_cons (s_if h h1 fun e => ss_nil (h2 e))
theorem app (F : XF X P w K mg base N sc k) (i : Nat) {x : Str} {apos cpos px : Pos} (he : E X Γ e d) (h : Ss X (Γ.set i (.ob (oL X.K (ds ++ [d])))) rest κ) (hl : ds.length < 100000) (hN : N[i]? = some x := by rfl) (hv : visB sc x = true := by rfl) (hi : Γ[i]? = some (.ob (oL X.K ds)) := by rfl)
    (hd : (x == ("__debug__" : Str)) = false := by decide) (hcd : (x == ("__classdict__" : Str)) = false := by decide) (hs : starEach [e] X.env = (false, eval e X.env) :: starEach [] X.env := by rfl)
    (hline : (apos.endLine == cpos.line) = true := by rfl) (hsw : swapsWith (.Call (.Attribute (.Name x px) "append" apos) [e] [] cpos) none pos.line X.env = pure false := by rfl) : Ss X Γ (.Expr (.Call (.Attribute (.Name x px) "append" apos) [e] [] cpos) pos :: rest) κ := ss_cons (s_append F i hN hv hi he hl h hd hcd hs hline hsw)
theorem setIx (F : XF X P w K mg base N sc k) (i : Nat) {x : Str} {spos px : Pos} {n : Int} {j : Nat} (he : E X Γ e d) (hb : E X Γ b (.int n)) (hj : ixN ds.length n = some j) (h : Ss X (Γ.set i (.ob (oL X.K (ds.set j d)))) rest κ) (hN : N[i]? = some x := by rfl) (hv : visB sc x = true := by rfl) (hi : Γ[i]? = some (.ob (oL X.K ds)) := by rfl)
    (hd : (x == ("__debug__" : Str)) = false := by decide) (hcd : (x == ("__classdict__" : Str)) = false := by decide) (hs : swapsWithSole [.Subscript (.Name x px) b spos] e pos.line X.env = pure false := by rfl) (hw : swappedStores [.Subscript (.Name x px) b spos] e X.env = pure none := by rfl)
    (hpg : ∀ {to ti : TE}, PE X (.Name x px) to → PE X b ti → PG X (.Subscript (.Name x px) b spos) (gSub to ti rSetL) := by exact fun h1 h2 => pg_sub h1 h2 set_list) : Ss X Γ (.Assign [.Subscript (.Name x px) b spos] e pos :: rest) κ := ss_cons (s_setIx F i hN hv hi he hb hj h hd hcd hs hw hpg)
/-- a for over a name -/
theorem forN {α : Type} (F : XF X P w K mg base N sc k) (xd : XD X) (i : Nat) (xs : List α) (enc : α → PyData) {x : Str} (hs : Src X Γ (.Name x px) iter (xs.map enc)) (Iv : Nat → List Sl → Prop) (h0 : Iv 0 Γ)
    (hb : ∀ n a Γ', xs[n]? = some a → Iv n Γ' → Ss X (Γ'.set i (.dat (enc a))) body ⟨Iv (n + 1), κ.rt, fun Γ' => Ss X Γ' rest κ, Iv (n + 1)⟩) (hd : ∀ Γ', Iv xs.length Γ' → Ss X Γ' rest κ) (hN : N[i]? = some x := by rfl) (hl : locB sc x = true := by rfl)
    (hfs : ∀ x, foldedSetIterable iter X.env x = pure x := by intro _; rfl) : Ss X Γ (.For (.Name x px) iter body [] pos :: rest) κ :=
  ss_cons (s_for F hs (pg_nm F xd i hN hl) Iv h0 (fun n d Γ' h1 h2 => by
    rw [List.getElem?_map] at h1
    cases q : xs[n]? with
    | none => rw [q] at h1; cases h1
    | some a =>
      rw [q] at h1
      cases h1
      exact ⟨_, [i], tgd_name i, hb n a Γ' q h2⟩) (by rw [List.length_map]; exact hd) hfs)
theorem forN2 {α : Type} (F : XF X P w K mg base N sc k) (xd : XD X) (i j : Nat) (xs : List α) (ea eb : α → PyData) {x y : Str} {cx pt} (hs : Src X Γ (.Tuple [.Name x px, .Name y py] cx pt) iter (xs.map fun a => .tuple [ea a, eb a])) (Iv : Nat → List Sl → Prop) (h0 : Iv 0 Γ)
    (hb : ∀ n a Γ', xs[n]? = some a → Iv n Γ' → Ss X ((Γ'.set i (.dat (ea a))).set j (.dat (eb a))) body ⟨Iv (n + 1), κ.rt, fun Γ' => Ss X Γ' rest κ, Iv (n + 1)⟩) (hd : ∀ Γ', Iv xs.length Γ' → Ss X Γ' rest κ) (hN : N[i]? = some x := by rfl) (hl : locB sc x = true := by rfl) (hN2 : N[j]? = some y := by rfl) (hl2 : locB sc y = true := by rfl)
    (hfs : ∀ x, foldedSetIterable iter X.env x = pure x := by intro _; rfl) : Ss X Γ (.For (.Tuple [.Name x px, .Name y py] cx pt) iter body [] pos :: rest) κ :=
  ss_cons (s_for F hs (pg2 F xd i j hN hl hN2 hl2) Iv h0 (fun n d Γ' h1 h2 => by
    rw [List.getElem?_map] at h1
    cases q : xs[n]? with
    | none => rw [q] at h1; cases h1
    | some a =>
      rw [q] at h1
      cases h1
      exact ⟨_, [i, j], tgd2 rfl, hb n a Γ' q h2⟩) (by rw [List.length_map]; exact hd) hfs)
/-- a, b = e -/
theorem set2 (F : XF X P w K mg base N sc k) (xd : XD X) (i j : Nat) {x y : Str} {cx pt} (he : E X Γ e (.tuple [d1, d2])) (h : Ss X ((Γ.set i (.dat d1)).set j (.dat d2)) rest κ) (hN : N[i]? = some x := by rfl) (hl : locB sc x = true := by rfl) (hN2 : N[j]? = some y := by rfl) (hl2 : locB sc y = true := by rfl)
    (hs : swapsWithSole [.Tuple [.Name x px, .Name y py] cx pt] e pos.line X.env = pure false := by rfl) (hw : swappedStores [.Tuple [.Name x px, .Name y py] cx pt] e X.env = pure none := by rfl) : Ss X Γ (.Assign [.Tuple [.Name x px, .Name y py] cx pt] e pos :: rest) κ :=
  ss_cons (s_asg F he (pg2 F xd i j hN hl hN2 hl2) (by rw [F.hK]; exact tgd2 rfl) h hs hw)
end
end Z
set_option Elab.async false
set_option linter.all false
set_option maxRecDepth 100000
set_option maxHeartbeats 2000000
/-! The module's constants. -/
namespace Z
open PySem PySem.Spec PyProof.Rows L2 Evl
/-- an int, a tuple of texts, a dict of ints by texts, written by the top -/
def GI (mg : Str → Option Value) (x : Str) (i : Int) : Prop := ∃ t, mg x = some (.int i t)
def GT (K : PySem.W.Frag) (mg : Str → Option Value) (x : Str) (ss : List Str) : Prop := ∃ a, mg x = some (.ref a) ∧ ∀ H, SqT K H a (ss.map V.str)
structure GD (K : PySem.W.Frag) (w : World) (mg : Str → Option Value) (x : Str) (kvs : List (Str × Int)) (no : List Str) : Prop where
  ex : ∃ d es n, mg x = some (.ref d) ∧ KDict K w d es n ∧ (∀ p ∈ kvs, ∃ t, PySem.W.nsIn K d p.1 = some (some (.int p.2 t))) ∧ ∀ z ∈ no, PySem.W.nsIn K d z = some none
structure CG (K : PySem.W.Frag) (w : World) (mg : Str → Option Value) : Prop where
  kinds : GT K mg "KINDS" ["still", "picture", "film", "sheet", "folio", "crate"]
  signs : GT K mg "SIGNS" ["<", "<=", "=", ">=", ">"]
  verdicts : GT K mg "VERDICTS" ["clean", "hold", "drop"]
  acts : GT K mg "ACTS" ["open", "file", "link", "form", "fetch", "script"]
  most : GD K w mg "MOST" [("size", 2147483647), ("pages", 100), ("acts", 100), ("depth", 100)] ["is", "could", "act", "name"]
  greatest : GD K w mg "GREATEST" [("size", 2147483647), ("pages", 8), ("depth", 4)] []
  mpat : GI mg "MOST_PATTERN" 20
  mterm : GI mg "MOST_TERMS" 3
  mrule : GI mg "MOST_RULES" 4
  star : GI mg "STAR" 42
  mstates : GI mg "MOST_STATES" 512
  macts : GI mg "MOST_ACTS" 1000
section
variable {X : Cx} {P : Program} {w : World} {K : PySem.W.Frag} {mg : Str → Option Value} {base : Heap} {N : List Str} {sc : Scope} {k : Nat}
variable {Γ : List Sl} {a b : Expr} {d : PyData} {pos p : Pos}
theorem gi (F : XF X P w K mg base N sc k) {x : Str} {i : Int} (h : GI mg x i) (hg : glB sc x = true := by rfl) (hd : (x == ("__debug__" : Str)) = false := by decide) : E X Γ (.Name x pos) (.int i) := by
  obtain ⟨t, h⟩ := h
  exact e_glob F hg h (v := .int i) ⟨t, rfl⟩ (fun _ => .int i) hd
theorem dt_strs {G : Hp} : ∀ ss : List Str, DtAll K G (ss.map V.str) (ss.map .str)
  | [] => .nil
  | s :: ss => .cons (.str s) (dt_strs ss)
theorem gt (F : XF X P w K mg base N sc k) {x : Str} {ss : List Str} (h : GT K mg x ss) (hg : glB sc x = true := by rfl) (hd : (x == ("__debug__" : Str)) = false := by decide) : E X Γ (.Name x pos) (.tuple (ss.map .str)) := by
  obtain ⟨a, h1, h2⟩ := h
  exact e_glob F hg h1 (v := .ref a) rfl (fun G => .tup (h2 G) (dt_strs ss)) hd
/-- s in D, D a dict of the module -/
theorem t_inKD (F : XF X P w K mg base N sc k) {x s : Str} {kvs : List (Str × Int)} {no : List Str} {v : Bool} (h : GD K w mg x kvs no) (ha : E X Γ a (.str s)) (hv : (v = true ∧ s ∈ kvs.map (·.1)) ∨ (v = false ∧ s ∈ no)) (hg : glB sc x = true := by rfl) (hd : (x == ("__debug__" : Str)) = false := by decide) : T X Γ (.Compare a [.In] [.Name x p] pos) v := by
  obtain ⟨d, es, n, h1, D, h2, h3⟩ := h.ex
  have hg' := F.gl hg
  obtain ⟨eP, ew, eK, em, eb, eN, es', hc, _, _, _⟩ := F
  subst eP ew eK em eb
  refine t_of (pt_cmpR (op_in_kd D) peS (pe_glob (v := .ref d) hg' h1 rfl hd) rfl) (evb_test (te := tOp _ _ _) fun G0 H0 σ G H hA Q hQ => ha G0 H0 σ G H hA _ fun v1 G1 H1 g1 d1 => ?_)
  cases d1
  rcases hv with ⟨rfl, hv⟩ | ⟨rfl, hv⟩
  · obtain ⟨q, hq, rfl⟩ := List.mem_map.mp hv
    obtain ⟨t, ht⟩ := h2 q hq
    exact ⟨_, _, rfl, rfl, ht, hQ _ G1 H1 g1 (.bl _)⟩
  · exact ⟨_, _, rfl, rfl, h3 s hv, hQ _ G1 H1 g1 (.bl _)⟩
/-- D[s] -/
theorem pe_ixKD {d : Addr} {es : Array DictEntry} {n : Nat} {to ti : TE} (D : KDict X.K X.w d es n) (ho : PE X a to) (hi : PE X b ti) (hs : NoSl b) :
    PE X (.Subscript a b pos) (fun σ H Q => to σ H fun x H1 => ti σ H1 fun y H2 => ∃ (z : Str) (u0 : Value) (v0 : V), x = .ref d ∧ y = .str z ∧ PySem.W.nsIn X.K d z = some (some u0) ∧ RelV v0 u0 ∧ Q v0 H2) := by
  refine ⟨fun pins s σ H Q I h => ?_⟩
  refine subD_of PySem.F.slot_dict_getitem.lookup hs (thn (ho.run pins s σ H _ I h) fun u s1 ⟨x, H1, I1, rx, q1⟩ => thn (hi.run pins s1 σ H1 _ I1 q1) fun iv s2 ⟨y, H2, I2, ry, q2⟩ => ?_)
  obtain ⟨z, u0, v0, e1, e2, e3, e4, q⟩ := q2
  have hT := kd_type D I2
  have e5 : u = .ref d := by
    rw [e1] at rx
    exact rx
  rw [e5]
  rw [e1] at rx
  exact ⟨hT, op_item_kd D pins s2 σ H2 (.ref d) y (.ref d) iv Q I2 rfl ry ⟨z, u0, v0, rfl, e2, e3, e4, q⟩⟩
theorem e_ixKD (F : XF X P w K mg base N sc k) {x s : Str} {i : Int} {kvs : List (Str × Int)} {no : List Str} (h : GD K w mg x kvs no) (hb : E X Γ b (.str s)) (hv : (s, i) ∈ kvs) (hg : glB sc x = true := by rfl) (hd : (x == ("__debug__" : Str)) = false := by decide) (hs : NoSl b := by exact fun _ _ => rfl) : E X Γ (.Subscript (.Name x p) b pos) (.int i) := by
  obtain ⟨d, es, n, h1, D, h2, h3⟩ := h.ex
  have hg' := F.gl hg
  obtain ⟨eP, ew, eK, em, eb, eN, es', hc, _, _, _⟩ := F
  subst eP ew eK em eb
  obtain ⟨t, ht⟩ := h2 _ hv
  refine e_of (pe_ixKD D (pe_glob (v := .ref d) hg' h1 rfl hd) peS hs) fun G0 H0 σ G H hA Q hQ => hb G0 H0 σ G H hA _ fun v1 G1 H1 g1 d1 => ?_
  cases d1
  exact ⟨_, _, .int i, rfl, rfl, ht, ⟨t, rfl⟩, hQ _ G1 H1 g1 (.int i)⟩
end
end Z
set_option Elab.async false
set_option linter.all false
set_option maxRecDepth 100000
set_option maxHeartbeats 2000000
/-! A dict of one's own with int keys (each with True), and its sorted keys. -/
namespace Z
open PySem PySem.Spec PyProof.Rows L2 Evl
def ikv (ks : List Int) : List (Key × V) := ks.map fun k => (Sum.inl k, V.bl true)
def oI (ks : List Int) : Ob := ⟨fun _ _ o => o = .dK (ikv ks), fun _ _ _ _ _ h => h⟩
def putI (ks : List Int) (k : Int) : List Int := if k ∈ ks then ks else ks ++ [k]
theorem putK_i (ks : List Int) (k : Int) : putK (ikv ks) (Sum.inl k) (V.bl true) = ikv (putI ks k) := by
  unfold putK putI
  have h1 : ((ikv ks).any fun kv => decide (kv.1 = (Sum.inl k : Key))) = decide (k ∈ ks) := by
    unfold ikv
    rw [List.any_map]
    induction ks with
    | nil => rfl
    | cons a r ih =>
      rw [List.any_cons, ih]
      by_cases h : a = k
      · subst h; simp
      · have h' : ¬ k = a := fun e => h e.symm
        simp [h, h']
  rw [h1]
  by_cases h : k ∈ ks
  · rw [if_pos (decide_eq_true h), if_pos h]
    unfold ikv
    rw [List.map_map]
    apply List.map_congr_left
    intro a _
    simp only [Function.comp]
    split
    · rfl
    · rfl
  · rw [if_neg (by simp [h]), if_neg h]
    unfold ikv
    simp
theorem putI_nodup {ks : List Int} (h : ks.Nodup) (k : Int) : (putI ks k).Nodup := by
  unfold putI
  split
  · exact h
  · rename_i hk
    rw [List.nodup_append]
    exact ⟨h, by simp, fun a ha b hb e => hk (by simp at hb; rw [← hb, ← e]; exact ha)⟩
theorem putI_mem {ks : List Int} {k x : Int} : x ∈ putI ks k ↔ x ∈ ks ∨ x = k := by
  unfold putI
  split
  · rename_i hk
    constructor
    · exact .inl
    · rintro (h | rfl)
      · exact h
      · exact hk
  · simp
theorem putI_len {ks : List Int} {k : Int} : (putI ks k).length ≤ ks.length + 1 := by
  unfold putI
  split <;> simp
section
variable {X : Cx} {P : Program} {w : World} {K : PySem.W.Frag} {mg : Str → Option Value} {base : Heap} {N : List Str} {sc : Scope} {k : Nat}
variable {Γ : List Sl} {a b e : Expr} {d : PyData} {pos p px : Pos} {κ : Kt} {rest : List Stmt} {ks : List Int}
theorem vals_keyI : ∀ {us : List Value} {vs : List (Key × Value)} {ks : List Int}, vs.map (·.1) = ks.map Sum.inl → us.length = vs.length → (∀ (j : Nat) (v : Value), us[j]? = some v → ∃ (k : Key) (x : Value), vs[j]? = some (k, x) ∧ keyIs k v = true) → IntsAre us ks
  | [], [], [], _, _, _ => .nil
  | u :: us, q :: vs, k :: ks, hk, hl, h => by
    obtain ⟨k', x, e1, e2⟩ := h 0 u rfl
    simp at e1
    subst e1
    simp only [List.map_cons, List.cons.injEq] at hk
    have e3 : k' = Sum.inl k := hk.1
    subst e3
    obtain ⟨t, ev⟩ := Value.isInt_shape (k := k) (v := u) e2
    subst ev
    exact .cons _ _ (vals_keyI hk.2 (by simpa using hl) fun j v e => by
      obtain ⟨k, x, q1, q2⟩ := h (j + 1) v (by simpa using e)
      exact ⟨k, x, by simpa using q1, q2⟩)
  | [], _ :: _, _, _, hl, _ => by simp at hl
  | _ :: _, [], _, _, hl, _ => by simp at hl
  | [], [], _ :: _, hk, _, _ => by simp at hk
  | _ :: _, _ :: _, [], hk, _, _ => by simp at hk
/-- sorted(d), d's keys ints, fewer than 64 -/
theorem call_sortedI (hcalm : X.calm = true) : CallR X (.builtin "sorted") (fun xs H Q => ∃ (a : Addr) (kvs : List (Key × V)) (ks : List Int), xs = [.ref a] ∧ Rd H a (.dK kvs) ∧ kvs.map (·.1) = ks.map Sum.inl ∧ ks.length < 64 ∧
    ∀ (ys : List Int) (p : Addr), ys.Perm ks → ys.Pairwise (· ≤ ·) → H p = none → Q (.ref p) (upd H p (.lst (ys.map V.int)))) := by
  intro pins s σ H xs us Q I r ⟨a, kvs, ks, ex, hd, hks, h64, q⟩
  subst ex
  obtain ⟨u, eu, rx⟩ := vals1 r
  subst eu
  cases rx
  obtain ⟨z, lo, vs, rel, dd⟩ := dk_rd I.hok hd
  obtain ⟨ep, hat⟩ := dd.dictAt
  have hkeys : vs.map (·.1) = ks.map Sum.inl := rel.keys.symm.trans hks
  have hl : vs.length = ks.length := by
    have e := congrArg List.length hkeys
    simpa using e
  refine Calls.call_function_entry PyProof.Rows.kind_sorted PyProof.Rows.plain_sorted PyProof.Rows.entry_sorted (PyProof.Rows.args_sorted1 _) ?_
  unfold Builtin.«sorted»
  refine wpAny_bind (m := checkCount "sorted" 1 1 _) (wpAny_pure ?_)
  refine wpAny_bind (PySem.W.kdu_collect (A := X.A.in1) (PySem.W.kdl_dict (knd := mixKind X.prog X.w) (kvs := vs) (ep := ep) lo) (I.ok.hd hcalm) hat (by rw [hl, sizeLine_eq]; omega) fun h1 tk acc hk hacc => ?_)
  have hal : acc.toList.length = ks.length := by rw [Array.length_toList, hacc.1, hl]
  have hI : IntsAre acc.toList ks := vals_keyI hkeys (by rw [hal, hl]) fun j v e => hacc.2 j v (by rw [← Array.getElem?_toList]; exact e)
  have I1 : Inv X pins σ H { s with heap := h1, toks := tk } := I.kept hk
  refine wpAny_bind (wpAny_newList ?_ (by rw [hal, sizeLine_eq]; omega))
  have hoL : (h1.push (seqObj "list" acc.toList.toArray 0)).get? h1.objs.size = some (seqObj "list" acc.toList.toArray 0) := Heap.get?_push_size _ rfl
  show wpAny _ _ _ _ _ { s with heap := h1.push (seqObj "list" acc.toList.toArray 0), toks := tk }
  refine wpAny_bind (wpAny_holding (wpAny_call_entry PyProof.Rows.slot_list_sort ⟨_, hoL, rfl⟩ PyProof.Rows.entry_list_sort
    (PyProof.Rows.list_sort_tree (s := { s with heap := h1.push (seqObj "list" acc.toList.toArray 0), toks := tk }) hoL hI (by rw [hal]; exact h64) fun out ns' g1 g2 g3 => ⟨.none, rfl, ?_⟩) (PyProof.Rows.args_list_sort _)))
  obtain ⟨e2, he2⟩ := PyProof.Rows.sortedHeap_at (vs := acc.toList) (out := out) hoL
  have hlen : (ns'.map V.int).length ≤ sizeLine := by
    rw [List.length_map, g2.length_eq]
    exact Nat.le_trans (Nat.le_of_lt h64) (by decide)
  refine wpAny_pure ⟨_, rfl, .ref h1.objs.size, upd H h1.objs.size (.lst (ns'.map V.int)), I1.laid (t' := tk) (fun b u e => ?_) (Nat.le_refl _)
    (show ObjOk X.prog X.w _ _ _ (.lst (ns'.map V.int)) from ⟨hlen, out.toList, e2, vals_of_ints g1, by rw [Array.toArray_toList]; exact he2⟩), rfl, q ns' _ g2 g3 (I1.hok.fresh (Nat.le_refl _))⟩
  have hb : b < h1.objs.size := Heap.lt_size e
  rw [PyProof.Rows.sortedHeap_old (Nat.ne_of_lt hb) (by rw [size_push']; exact Nat.lt_succ_of_lt hb)]
  exact Heap.get?_push_of_some _ e
/-- sorted(x), x one's own dict -/
theorem e_sortedI (F : XF X P w K mg base N sc k) (bn : BN mg) (i : Nat) {x : Str} {ms : List Int} (hi : Γ[i]? = some (.ob (oI ks))) (h64 : ks.length < 64) (hm : ∀ l : List Int, l.Perm ks → l.Pairwise (· ≤ ·) → l = ms) (hN : N[i]? = some x := by rfl) (hv : visB sc x = true := by rfl) (hg : glB sc "sorted" = true := by rfl)
    (hd : (x == ("__debug__" : Str)) = false := by decide) (hcd : (x == ("__classdict__" : Str)) = false := by decide) : E X Γ (.Call (.Name "sorted" p) [.Name x px] [] pos) (.list (ms.map .int)) :=
  e_of (pe_callB (call_sortedI F.calm) (F.gl hg) (F.none bn.sorted) (by decide +kernel) (pa_cons (pe_var (i := i) (by rw [F.hN]; exact hN) (by rw [F.hsc]; exact vis_of hv) hd hcd) pa_nil)) fun G0 H0 σ G H hA Q hQ => by
    obtain ⟨l, u, e, h0, hgl, h1, p1⟩ := hA.sl i _ hi
    have p2 : u = .dK (ikv ks) := p1
    subst p2
    refine ⟨_, e, l, _, ks, rfl, .inl h1, by simp [ikv], h64, fun ys q h2 h3 h4 => ?_⟩
    rw [hm ys h2 h3]
    exact hQ _ _ _ (Gr.new hA.gr.gh h4) (.lst upd_same (dt_intsOf ms))
/-- x = {} -/
theorem setI0 (F : XF X P w K mg base N sc k) (xd : XD X) (i : Nat) {x : Str} (h : Ss X (Γ.set i (.ob (oI []))) rest κ) (hN : N[i]? = some x := by rfl) (hl : locB sc x = true := by rfl) : Ss X Γ (.Assign [.Name x p] (.Dict [] [] px) pos :: rest) κ := ss_cons fun G0 H0 D M σ G H hA pins s I =>
  (ps_set (i := i) (by rw [F.hN]; exact F.nd) (by rw [F.hN]; exact hN) (by rw [F.hsc]; exact loc_of hl) pe_dnewK (by rfl) (.inl (xd.fn x))).run pins s σ H D I fun q hq => M.nx _ h _ G _ (hA.own (G' := G) ⟨Ex.refl _, hA.gr.gh.trans (Ex.new hq), Ex.new hq, fun _ _ _ g => g⟩ hq (fresh_back hA.gr.gh hq) upd_same rfl)
/-- x = {e1: True, e2: True} -/
theorem setI2 (F : XF X P w K mg base N sc k) (xd : XD X) (i : Nat) {x : Str} {e1 e2 : Expr} {n1 n2 : Int} {j1 j2} {p1 p2 : Pos} (he1 : E X Γ e1 (.int n1)) (he2 : E X Γ e2 (.int n2)) (h : Ss X (Γ.set i (.ob (oI (putI (putI [] n1) n2)))) rest κ) (hN : N[i]? = some x := by rfl) (hl : locB sc x = true := by rfl)
    (hsw : swapsWith (.Dict [some e1, some e2] [.Constant (.bool true) j1 p1, .Constant (.bool true) j2 p2] px) (some (.Name x p)) pos.line X.env = pure false := by rfl) : Ss X Γ (.Assign [.Name x p] (.Dict [some e1, some e2] [.Constant (.bool true) j1 p1, .Constant (.bool true) j2 p2] px) pos :: rest) κ := ss_cons fun G0 H0 D M σ G H hA pins s I =>
  (ps_set (i := i) (by rw [F.hN]; exact F.nd) (by rw [F.hN]; exact hN) (by rw [F.hsc]; exact loc_of hl) (pe_disp (pps_cons peS pe_bl (pps_cons peS pe_bl pps_nil)) rfl rfl (by simp) (by simp)) hsw (.inl (xd.fn x))).run pins s σ H D I fun q hq => by
    have g0 : Gr G H G (upd H q (.dK [])) := Gr.more hA.gr.gh (Ex.new hq)
    have gq : G q = none := fresh_back hA.gr.gh hq
    refine he1 G0 H0 σ G _ (hA.grow g0) _ fun v1 G1 H1 g1 d1 => ?_
    cases d1
    refine he2 G0 H0 σ G1 H1 ((hA.grow g0).grow g1) _ fun v2 G2 H2 g2 d2 => ?_
    cases d2
    have g12 := g1.trans g2
    have q2 : H2 q = some (.dK []) := g12.hh _ _ upd_same
    have gq2 : G2 q = none := g12.fr q _ upd_same gq
    refine ⟨q2, [(Sum.inl n1, V.bl true), (Sum.inl n2, V.bl true)], rfl, by simp, M.nx _ h _ G2 _ (hA.own (gr_mut (g0.trans g12) hq gq2) hq gq2 upd_same ?_)⟩
    show HO.dK _ = HO.dK _
    have e : mergeK [] [(Sum.inl n1, V.bl true), (Sum.inl n2, V.bl true)] = ikv (putI (putI [] n1) n2) := by
      rw [← putK_i, ← putK_i]
      rfl
    rw [e]
/-- x[e] = True -/
theorem setI (F : XF X P w K mg base N sc k) (i : Nat) {x : Str} {n : Int} {spos : Pos} {j} {pt : Pos} (he : E X Γ e (.int n)) (hi : Γ[i]? = some (.ob (oI ks))) (h64 : ks.length < 64) (h : Ss X (Γ.set i (.ob (oI (putI ks n)))) rest κ) (hN : N[i]? = some x := by rfl) (hv : visB sc x = true := by rfl)
    (hd : (x == ("__debug__" : Str)) = false := by decide) (hcd : (x == ("__classdict__" : Str)) = false := by decide) : Ss X Γ (.Assign [.Subscript (.Name x px) e spos] (.Constant (.bool true) j pt) pos :: rest) κ := ss_cons fun G0 H0 D M σ G H hA pins s I => by
  refine (ps_dput (by have := F.hu; omega) (pe_var (i := i) (by rw [F.hN]; exact hN) (by rw [F.hsc]; exact vis_of hv) hd hcd) peS pe_bl rfl).run pins s σ H D I ?_
  obtain ⟨l, u, e, h0, hgl, h1, p1⟩ := hA.sl i _ hi
  have p2 : u = .dK (ikv ks) := p1
  subst p2
  refine ⟨_, e, he G0 H0 σ G H hA _ fun v G1 H1 g1 d1 => ?_⟩
  cases d1
  refine ⟨l, _, rfl, DPut.k (k := Sum.inl n) (g1.hh _ _ h1) (by simp [ikv]; exact sz_lt (by omega)), M.nx _ h _ G1 _ ((hA.grow g1).chg hi e ?_)⟩
  rw [putK_i]
  rfl
end
/-- the one sorted list -/
theorem sorted_one : ∀ {l m : List Int}, l.Perm m → l.Pairwise (· ≤ ·) → m.Pairwise (· ≤ ·) → l = m
  | [], m, h, _, _ => by rw [List.Perm.nil_eq h]
  | a :: l, [], h, _, _ => by have := h.length_eq; simp at this
  | a :: l, b :: m, h, h1, h2 => by
    have e : a = b := by
      have ha : a ∈ b :: m := h.mem_iff.mp (by simp)
      have hb : b ∈ a :: l := h.mem_iff.mpr (by simp)
      have l1 := (List.pairwise_cons.mp h1).1
      have l2 := (List.pairwise_cons.mp h2).1
      rcases List.mem_cons.mp ha with e | e
      · exact e
      · rcases List.mem_cons.mp hb with e' | e'
        · exact e'.symm
        · have := l1 b e'
          have := l2 a e
          omega
    subst e
    rw [sorted_one (List.Perm.cons_inv h) (List.pairwise_cons.mp h1).2 (List.pairwise_cons.mp h2).2]
end Z
set_option Elab.async false
set_option linter.all false
set_option maxRecDepth 100000
set_option maxHeartbeats 2000000
/-! Dicts with nested keys: raw facts and readings. -/
namespace Z
open PySem PySem.Spec PyProof.Rows L2 Evl
def natN (l : List Nat) : NestedKey := .tup (l.map fun (n : Nat) => .num n)
def tkN : TK → NestedKey
  | .inl bs => .tup (bs.map fun b => .num (if b = true then 1 else 0))
  | .inr ls => .tup (ls.map natN)
theorem depthAll_le {n : Nat} : ∀ {ks : List NestedKey}, (∀ k ∈ ks, k.depth ≤ n) → NestedKey.depthAll ks ≤ n
  | [], _ => by simp [NestedKey.depthAll]
  | k :: ks, h => by
    have h1 := h k (by simp)
    have h2 := depthAll_le (ks := ks) fun k hk => h k (by simp [hk])
    simp only [NestedKey.depthAll]
    omega
theorem natN_depth (l : List Nat) : (natN l).depth ≤ 1 := by
  have := depthAll_le (n := 0) (ks := l.map fun (n : Nat) => .num n) (fun k hk => by
    obtain ⟨n, _, rfl⟩ := List.mem_map.mp hk
    simp [NestedKey.depth])
  simp only [natN, NestedKey.depth]
  omega
theorem tkN_depth (k : TK) : (tkN k).depth ≤ 8 := by
  cases k with
  | inl bs =>
    have := depthAll_le (n := 0) (ks := bs.map fun b => .num (if b = true then 1 else 0)) (fun k hk => by
      obtain ⟨n, _, rfl⟩ := List.mem_map.mp hk
      simp [NestedKey.depth])
    simp only [tkN, NestedKey.depth]
    omega
  | inr ls =>
    have := depthAll_le (n := 1) (ks := ls.map natN) (fun k hk => by
      obtain ⟨n, _, rfl⟩ := List.mem_map.mp hk
      exact natN_depth n)
    simp only [tkN, NestedKey.depth]
    omega
section
variable {X : Cx} {pins : List (Addr × Obj)} {σ : L2.St} {H G : Hp} {s : Shared} {a b d : Addr} {ep : Nat}
theorem all_ints {h : Heap} : ∀ {l : List Nat} {us : List Value}, Vals (l.map fun (n : Nat) => V.int n) us → NestedAll h (l.map fun (n : Nat) => .num n) us
  | [], _, r => by
    cases r
    exact .nil
  | n :: l, _, r => by
    cases r with
    | cons r1 r2 =>
      obtain ⟨t, rfl⟩ := r1
      exact .cons (.int _ t) (all_ints r2)
theorem all_bools {h : Heap} : ∀ {l : List Bool} {us : List Value}, Vals (l.map V.bl) us → NestedAll h (l.map fun b => .num (if b = true then 1 else 0)) us
  | [], _, r => by
    cases r
    exact .nil
  | n :: l, _, r => by
    cases r with
    | cons r1 r2 =>
      cases r1
      exact .cons (.bool rfl) (all_bools r2)
theorem nats_is (I : Inv X pins σ H s) {l : List Nat} (h : NatsOk X.K H a l) : NestedIs s.heap (natN l) (.ref a) := by
  obtain ⟨its, r, ⟨o, ho, hc, n, hd⟩, _⟩ := I.tuple h
  exact .tup ho hc hd (by simpa using all_ints r)
theorem all_nats (I : Inv X pins σ H s) : ∀ {as : List Addr} {ls : List (List Nat)} {us : List Value}, Paired (NatsOk X.K H) as ls → Vals (as.map V.ref) us → NestedAll s.heap (ls.map natN) us
  | [], _, _, p, r => by
    cases p
    cases r
    exact .nil
  | a :: as, _, _, p, r => by
    cases p with
    | cons p1 p2 =>
      cases r with
      | cons r1 r2 =>
        cases r1
        exact .cons (nats_is I p1) (all_nats I p2 r2)
theorem key_is (I : Inv X pins σ H s) {k : TK} (h : KeyOk X.K H a k) : NestedIs s.heap (tkN k) (.ref a) := by
  cases k with
  | inl bs =>
    obtain ⟨its, r, ⟨o, ho, hc, n, hd⟩, _⟩ := I.tuple (show SqT X.K H a _ from h)
    exact .tup ho hc hd (by simpa using all_bools r)
  | inr ls =>
    obtain ⟨as, h1, h2⟩ := h
    obtain ⟨its, r, ⟨o, ho, hc, n, hd⟩, _⟩ := I.tuple h1
    exact .tup ho hc hd (by simpa using all_nats I h2 r)
/-! ### the dict -/
abbrev En := TK × TV
abbrev Raw := Int × Addr × Value
def PE' (K : PySem.W.Frag) (w : World) (G : Hp) (x : Raw) (e : En) : Prop := EntOk K G x ((tkN e.1).hash w, e)
def xsOf (w : World) : List Raw → List En → List (NestedKey × Addr × Value)
  | x :: l, e :: en => (tkN e.1, x.2.1, x.2.2) :: xsOf w l en
  | _, _ => []
def lk (en : List En) (k : NestedKey) : Option TV := (en.find? fun e => decide (tkN e.1 = k)).map (·.2)
structure IsN (X : Cx) (G H : Hp) (a : Addr) (ep : Nat) (l : List Raw) (en : List En) : Prop where
  sys : (a == sysModules) = false
  at_ : H a = some (rawD a ep l)
  ex : Ex G H
  pr : Paired (PE' X.K X.w G) l en
  nd : (en.map fun e => tkN e.1).Nodup
theorem xs_keys {K : PySem.W.Frag} {w : World} : ∀ {l : List Raw} {en : List En}, Paired (PE' K w G) l en → (xsOf w l en).map (·.1) = en.map fun e => tkN e.1
  | _, _, .nil => rfl
  | _, _, .cons _ t => by simp [xsOf, xs_keys t]
theorem xs_ent {K : PySem.W.Frag} {P : Program} {w : World} : ∀ {l : List Raw} {en : List En}, Paired (PE' K w G) l en → (l.map fun x => (⟨x.1, .ref x.2.1, x.2.2⟩ : DictEntry)) = (xsOf w l en).map (entryOfKey (nestedKind P w))
  | _, _, .nil => rfl
  | _, _, .cons h t => by
    have := xs_ent (P := P) t
    simp only [xsOf, List.map_cons]
    rw [this, h.1]
    rfl
theorem xs_len {K : PySem.W.Frag} {w : World} : ∀ {l : List Raw} {en : List En}, Paired (PE' K w G) l en → (xsOf w l en).length = en.length
  | _, _, .nil => rfl
  | _, _, .cons _ t => by simp [xsOf, xs_len t]
theorem xs_is (I : Inv X pins σ H s) (ex : Ex G H) : ∀ {l : List Raw} {en : List En}, Paired (PE' X.K X.w G) l en → ∀ x ∈ xsOf X.w l en, (nestedKind X.prog X.w).is s.heap x.1 x.2.1
  | _, _, .nil, x, hx => by simp [xsOf] at hx
  | _, _, .cons h t, x, hx => by
    simp only [xsOf, List.mem_cons] at hx
    rcases hx with rfl | hx
    · exact ⟨key_is I (keyok_ex ex h.2.1), tkN_depth _⟩
    · exact xs_is I ex t x hx
theorem raw_obj (I : Inv X pins σ H s) {l : List Raw} (h : H a = some (rawD a ep l)) : ∃ o es, s.heap.get? a = some o ∧ o.ExactDict ∧ o.data = .dict es ep ∧ es.toList = l.map fun x => ⟨x.1, .ref x.2.1, x.2.2⟩ := by
  obtain ⟨p, _, _⟩ := I.hok a _ h
  exact p
theorem dict_of {l : List Raw} {en : List En} (I : Inv X pins σ H s) (D : IsN X G H a ep l en) : s.heap.DictOfH (nestedKind X.prog X.w) a (xsOf X.w l en) := by
  obtain ⟨o, es, h1, h2, h3, h4⟩ := raw_obj I D.at_
  exact ⟨o, es, ep, h1, h2, h3, h4.trans (xs_ent D.pr), xs_is I D.ex D.pr, by rw [xs_keys D.pr]; exact D.nd⟩
theorem at_some {K : PySem.W.Frag} {w : World} {k : NestedKey} {v : TV} : ∀ {l : List Raw} {en : List En}, Paired (PE' K w G) l en → lk en k = some v → ∃ p, atKey (xsOf w l en) k = some p ∧ ValOk K G p.2 v
  | _, _, .nil, h => by simp [lk] at h
  | _, _, .cons (a := x) (b := e) h t, hk => by
    by_cases q : tkN e.1 = k
    · simp only [lk, List.find?_cons, q, decide_true, Option.map_some, Option.some.injEq] at hk
      refine ⟨(x.2.1, x.2.2), by simp [atKey, xsOf, q], ?_⟩
      rw [← hk]
      exact h.2.2
    · simp only [lk, List.find?_cons, q, decide_false] at hk
      obtain ⟨p, h1, h2⟩ := at_some t hk
      exact ⟨p, by simpa [atKey, xsOf, q] using h1, h2⟩
theorem at_none {K : PySem.W.Frag} {w : World} {k : NestedKey} : ∀ {l : List Raw} {en : List En}, Paired (PE' K w G) l en → lk en k = none → atKey (xsOf w l en) k = none
  | _, _, .nil, h => by simp [atKey, xsOf]
  | _, _, .cons (a := x) (b := e) h t, hk => by
    by_cases q : tkN e.1 = k
    · simp [lk, q] at hk
    · simp only [lk, List.find?_cons, q, decide_false] at hk
      simpa [atKey, xsOf, q] using at_none t hk
theorem at_isSome {K : PySem.W.Frag} {w : World} {k : NestedKey} {l : List Raw} {en : List En} (p : Paired (PE' K w G) l en) : (atKey (xsOf w l en) k).isSome = (lk en k).isSome := by
  cases h : lk en k with
  | none => simp [at_none p h]
  | some v =>
    obtain ⟨q, h1, _⟩ := at_some p h
    rw [h1]
    rfl
theorem lk_none {en : List En} {k : NestedKey} (h : lk en k = none) : k ∉ en.map fun e => tkN e.1 := fun hm => by
  obtain ⟨e, he, rfl⟩ := List.mem_map.mp hm
  simp only [lk, Option.map_eq_none_iff, List.find?_eq_none] at h
  exact h e he (by simp)
def ValV (K : PySem.W.Frag) (G : Hp) (r : V) : TV → Prop
  | none => r = .bl true
  | some l => ∃ b, r = .ref b ∧ NatsOk K G b l
theorem val_of {K : PySem.W.Frag} {u : Value} {v : TV} (h : ValOk K G u v) : ∃ r, RelV r u ∧ ValV K G r v := by
  cases v with
  | none => exact ⟨.bl true, (show u = .bool true from h), rfl⟩
  | some l =>
    obtain ⟨b, rfl, h⟩ := h
    exact ⟨.ref b, rfl, b, rfl, h⟩
theorem of_val {K : PySem.W.Frag} {r : V} {u : Value} {v : TV} (h : ValV K G r v) (q : RelV r u) : ValOk K G u v := by
  cases v with
  | none =>
    have e : r = .bl true := h
    subst e
    exact q
  | some l =>
    obtain ⟨b, rfl, h⟩ := h
    exact ⟨b, q, h⟩
end
end Z
set_option Elab.async false
set_option linter.all false
set_option maxRecDepth 100000
set_option maxHeartbeats 2000000
/-! Dicts with nested keys: rules. -/
namespace Z
open PySem PySem.Spec PyProof.Rows L2 Evl
section
variable {X : Cx} {pos pos' tpos p : Pos} {o i e value : Expr} {td ty tv : TE} {a : Addr} {ep : Nat} {l : List Raw}
theorem raw_stab : ∀ h1 h2 : Heap, (∃ o es, h1.get? a = some o ∧ o.ExactDict ∧ o.data = .dict es ep ∧ es.toList = l.map fun x => (⟨x.1, .ref x.2.1, x.2.2⟩ : DictEntry)) → (∀ o, h1.get? a = some o → h2.get? a = some o) → ∃ o es, h2.get? a = some o ∧ o.ExactDict ∧ o.data = .dict es ep ∧ es.toList = l.map fun x => (⟨x.1, .ref x.2.1, x.2.2⟩ : DictEntry) :=
  fun _ _ ⟨o, es, h1, h2⟩ k => ⟨o, es, k o h1, h2⟩
theorem raw_ok {P : Program} {w : World} {H : Hp} {h : Heap} (q : ∃ o es, h.get? a = some o ∧ o.ExactDict ∧ o.data = .dict es ep ∧ es.toList = l.map fun x => (⟨x.1, .ref x.2.1, x.2.2⟩ : DictEntry)) : ObjOk P w H h a (rawD a ep l) :=
  ⟨q, let ⟨o, _, h1, _⟩ := q; ⟨o, h1⟩, raw_stab⟩
theorem in1_room (hu : X.A.units + 66 < cLine) : (nestedKind X.prog X.w).room X.A.in1 := by
  show X.A.in1.units + 8 < cLine
  have : X.A.in1.units = X.A.units + 1 := rfl
  omega
theorem sys_ne {n : Nat} (h : sysModules < n) : (n == sysModules) = false := by
  simp only [beq_eq_false_iff_ne]
  exact Nat.ne_of_gt h
theorem pe_dnewN : PE X (.Dict [] [] pos) (fun _ H Q => ∀ p, H p = none → (p == sysModules) = false → Q (.ref p) (upd H p (rawD p 0 []))) := ⟨fun pins s σ H Q I h =>
  wpAny_Dict_empty ⟨.ref s.heap.objs.size, _, I.laid (a := s.heap.objs.size) (o := rawD s.heap.objs.size 0 []) (t' := s.toks) (fun _ _ q => Heap.get?_push_of_some _ q) (Nat.le_refl _)
    (raw_ok ⟨_, #[], Heap.get?_push_size _ rfl, ⟨rfl, rfl, rfl⟩, rfl, rfl⟩), rfl, h _ (I.hok.fresh (Nat.le_refl _)) (sys_ne I.big)⟩⟩
def rNotInN (X : Cx) : R2 := fun x y H Q => ∃ (a b : Addr) (G : Hp) (ep : Nat) (l : List Raw) (en : List En) (k : TK), x = .ref b ∧ y = .ref a ∧ IsN X G H a ep l en ∧ KeyOk X.K H b k ∧ Q (.bl (!(lk en (tkN k)).isSome)) H
theorem op_notInN (hu : X.A.units + 66 < cLine) : OpR X (compareOp .NotIn) (rNotInN X) := by
  intro pins s σ H x y v u Q I rx ry ⟨a, b, G, ep, l, en, k, ex, ey, D, hk, q⟩
  subst ex ey
  cases rx
  cases ry
  refine wpAny_notIn_heap (in1_room hu) ⟨key_is I hk, tkN_depth k⟩ D.sys (dict_of I D) ⟨.bl _, H, I.tok _, rfl, ?_⟩
  rw [at_isSome D.pr]
  exact q
def tGetN (X : Cx) (td ty : TE) : TE := fun σ H Q => td σ H fun x H1 => ty σ H1 fun y H2 => ∃ (a b : Addr) (G : Hp) (ep : Nat) (l : List Raw) (en : List En) (k : TK) (v : TV), x = .ref a ∧ y = .ref b ∧ IsN X G H2 a ep l en ∧ KeyOk X.K H2 b k ∧ lk en (tkN k) = some v ∧ ∀ r, ValV X.K G r v → Q r H2
theorem pe_getN (hu : X.A.units + 66 < cLine) (ho : PE X o td) (hi : PE X i ty) (hs : NoSl i) : PE X (.Subscript o i pos) (tGetN X td ty) := by
  refine ⟨fun pins s σ H Q I h => ?_⟩
  refine subD_of PySem.F.slot_dict_getitem.lookup hs (thn (ho.run pins s σ H _ I h) fun u s1 ⟨x, H1, I1, rx, q1⟩ => thn (hi.run pins s1 σ H1 _ I1 q1) fun iv s2 ⟨y, H2, I2, ry, a, b, G, ep, l, en, k, v, ex, ey, D, hk, hv, q2⟩ => ?_)
  subst ex ey
  obtain rfl : u = Value.ref a := rx
  obtain rfl : iv = Value.ref b := ry
  obtain ⟨p, hp, hp2⟩ := at_some D.pr hv
  obtain ⟨r, hr, hr2⟩ := val_of hp2
  exact ⟨(dict_of I2 D).typeIs, wpAny_getItem_heap (in1_room hu) ⟨key_is I2 hk, tkN_depth k⟩ (dict_of I2 D) hp ⟨r, H2, I2.tok _, hr, q2 r hr2⟩⟩
def sPutN (X : Cx) (td ty tv : TE) : TS := fun D σ H => tv σ H fun v H1 => td σ H1 fun x H2 => ty σ H2 fun y H3 => ∃ (a b : Addr) (G : Hp) (ep : Nat) (l : List Raw) (en : List En) (k : TK), x = .ref a ∧ y = .ref b ∧ IsN X G H3 a ep l en ∧ KeyOk X.K H3 b k ∧ lk en (tkN k) = none ∧ en.length ≤ 1000 ∧
  ∀ ep' u, RelV v u → D.nx σ (upd H3 a (rawD a ep' (l ++ [((tkN k).hash X.w, b, u)])))
theorem ps_putN (hu : X.A.units + 66 < cLine) (ho : PE X o td) (hi : PE X i ty) (hv : PE X value tv) (hs : swapsWith value (some (.Subscript o i pos')) pos.line X.env = pure false) :
    PS X (.Assign [.Subscript o i pos'] value pos) (sPutN X td ty tv) := by
  refine ⟨fun pins s σ H D I h => ?_⟩
  refine wpAny_Assign_Subscript (thn (hv.run pins s σ H _ I h) fun r s1 ⟨v, H1, I1, rv, q1⟩ => thn (ho.run pins s1 σ H1 _ I1 q1) fun u s2 ⟨x, H2, I2, rx, q2⟩ => thn (hi.run pins s2 σ H2 _ I2 q2) fun iv s3 ⟨y, H3, I3, ry, a, b, G, ep, l, en, k, ex, ey, D', hk, hl, hz, q3⟩ => ?_) hs
  subst ex ey
  obtain rfl : u = Value.ref a := rx
  obtain rfl : iv = Value.ref b := ry
  refine wpAny_setItem_heap (hsz := by rw [xs_len D'.pr, sizeLine_eq]; omega) (in1_room hu) ⟨key_is I3 hk, tkN_depth k⟩ (dict_of I3 D') fun h' dd' hs' => ?_
  rw [storedH_new (at_none D'.pr hl)] at dd'
  obtain ⟨ob, es, ep', h1, h2, h3, h4, _, _⟩ := dd'
  refine ⟨σ, _, d_write I3 (by rw [D'.at_]; exact True.intro) hs' ⟨ob, h1⟩ (raw_ok (l := l ++ [((tkN k).hash X.w, b, r)]) ⟨ob, es, h1, h2, h3, ?_⟩), q3 ep' r rv⟩
  rw [h4, List.map_append, List.map_append, xs_ent (P := X.prog) D'.pr]
  rfl
def rLenN (X : Cx) : List V → Hp → VK → Prop := fun xs H Q => ∃ (a : Addr) (G : Hp) (ep : Nat) (l : List Raw) (en : List En), xs = [.ref a] ∧ IsN X G H a ep l en ∧ en.length ≤ 1000 ∧ Q (.int (en.length : Nat)) H
theorem call_lenN : CallR X (.builtin "len") (rLenN X) := by
  intro pins s σ H xs us Q I r ⟨a, G, ep, l, en, ex, D, hz, q⟩
  subst ex
  obtain ⟨u, rfl, rx⟩ := vals1 r
  obtain rfl : u = .ref a := rx
  have hl := xs_len D.pr
  refine call_len_dictH D.sys (dict_of I D) (by rw [hl]; omega) ?_
  rw [hl]
  exact ⟨.int (en.length : Nat), H, I.tok _, ⟨_, rfl⟩, q⟩
/-! ### walked by its keys -/
def ItN (a : Addr) (ep : Nat) (l : List Raw) : It :=
  ⟨fun i H => H a = some (rawD a ep l) ∧ i < l.length, fun i H v H' => H' = H ∧ ∃ x, l[i]? = some x ∧ v = .ref x.2.1, fun i H => H a = some (rawD a ep l) ∧ i = l.length⟩
theorem turn_keysN {P : Program} {w : World} {K : PySem.W.Frag} {tg : Expr} (it : Addr) : Turn P w K tg (ItN a ep l) [it] it (fun i h => h.IsKeyIter it a i l.length ep) where
  mem := by simp
  obj := fun i h st b hb => by
    have e : b = it := by simpa using hb
    subst e
    obtain ⟨oi, e, c, dd⟩ := st
    exact ⟨oi, e, fun v z => by rw [dd] at z; cases z⟩
  keep := fun i h h' st k => st.at fun oi e => k it (by simp) oi e
  item := by
    intro X hP hw hK hc i pins s σ H E I hf st hg
    subst hP hw hK
    obtain ⟨hd, hi⟩ := hg
    obtain ⟨f0, f1, f2, f3, f4, f5⟩ := hf it (by simp)
    obtain ⟨o, es, h1, h2, h3, h4⟩ := raw_obj I hd
    have hsz : es.size = l.length := by rw [← Array.length_toList, h4, List.length_map]
    have hx : l[i]? = some l[i] := List.getElem?_eq_getElem hi
    have hen : es[i]? = some ⟨l[i].1, .ref l[i].2.1, l[i].2.2⟩ := by rw [← Array.getElem?_toList, h4, List.getElem?_map, hx]; rfl
    refine next_key_item st h1 h3 hsz hen fun h' st' sb => ?_
    have I1 : Inv X pins σ H { s with heap := h' } := I.turned (t' := s.toks) (fun b ob hb e => (sb.2 b hb).trans e) f0 f1 f3 f4 f5
    obtain ⟨oi, e, c, dd⟩ := id st'
    exact ⟨_, rfl, go_of (s := { s with heap := h' }) e c dd (by decide) ⟨.ref l[i].2.1, H, I1, rfl, ⟨rfl, _, hx, rfl⟩, st', fun b hb => (hf b hb).1⟩⟩
  done := by
    intro X hP hw hK hc i pins s σ H E I hf st hg
    subst hP hw hK
    obtain ⟨hd, hi⟩ := hg
    obtain ⟨f0, f1, f2, f3, f4, f5⟩ := hf it (by simp)
    obtain ⟨o, es, h1, h2, h3, h4⟩ := raw_obj I hd
    have hsz : es.size = l.length := by rw [← Array.length_toList, h4, List.length_map]
    exact next_key_end (I.ok.hd hc) st h1 h3 hsz (by omega) fun h' eb => ⟨rfl, I.turned (t' := s.toks) (fun b ob hb e => eb b ob hb e) f0 f1 f3 f4 f5⟩
  self := fun A i s Q E st h => by
    refine wpAny_pyIter_slot st.typeIs F.slot_dict_keyiterator_iter (wpAny_call_entry F.slot_dict_keyiterator_iter st.typeIs F.entry_dict_keyiterator_iter ?_ (F.args_dict_keyiterator_iter_1 _))
    show wpAny _ _ (PySem.ret (Value.ref it)) _ _ s
    exact wpAny_pure ⟨_, rfl, "dict_keyiterator", _, st.typeIs, F.slot_dict_keyiterator_next.lookup, h⟩
def iKeysN (td : TE) : TI := fun σ H R => td σ H fun x H1 => ∃ a ep l, x = .ref a ∧ (a == sysModules) = false ∧ H1 a = some (rawD a ep l) ∧ R (ItN a ep l) H1
theorem pi_keysN {tg : Expr} (he : PE X e td) : PI X tg e (iKeysN td) := by
  refine ⟨fun pins s σ H R I h => ?_⟩
  refine thn (he.run pins s σ H _ I h) fun u s1 ⟨x, H1, I1, rx, a, ep, l, ex, hs, hd, q⟩ => ?_
  subst ex
  obtain rfl : u = Value.ref a := rx
  obtain ⟨o, es, h1, h2, h3, h4⟩ := raw_obj I1 hd
  have hsz : es.size = l.length := by rw [← Array.length_toList, h4, List.length_map]
  refine iter_keys hs h1 h2 h3 (pi_one (tk := s1.toks) I1 _ (turn_keysN _) ⟨_, Heap.get?_push_size _ rfl, rfl, ?_⟩ q)
  rw [hsz] <;> rfl
/-! ### {k: v} -/
def tDispN (X : Cx) (tk tv : TE) : TE := fun σ H Q => ∀ p, H p = none → (p == sysModules) = false → tk σ (upd H p (rawD p 0 [])) fun x H1 => tv σ H1 fun y H2 => H2 p = some (rawD p 0 []) ∧ ∃ (b : Addr) (k : TK), x = .ref b ∧ KeyOk X.K H2 b k ∧
  ∀ ep u, RelV y u → Q (.ref p) (upd H2 p (rawD p ep [((tkN k).hash X.w, b, u)]))
theorem pe_dispN (hu : X.A.units + 66 < cLine) (hk : PE X i td) (hv : PE X value tv) : PE X (.Dict [some i] [value] pos) (tDispN X td tv) := by
  refine ⟨fun pins s σ H Q I q => ?_⟩
  have hn := I.hok.fresh (Nat.le_refl s.heap.objs.size)
  have I1 := I.laid (a := s.heap.objs.size) (o := rawD s.heap.objs.size 0 []) (h' := s.heap.push { cls := .type "dict", data := .dict #[] }) (t' := s.toks) (fun _ _ q => Heap.get?_push_of_some _ q) (Nat.le_refl _) (raw_ok ⟨_, #[], Heap.get?_push_size _ rfl, ⟨rfl, rfl, rfl⟩, rfl, rfl⟩)
  have hq := q _ hn (sys_ne I.big)
  have hall : ([some i] : List (Option Expr)).all (·.isSome) = true := rfl
  rw [arm_eval_Dict, zip_pairTrees [some i] [value] X.env pos rfl rfl, dictDisplay_pairs (pairTrees [some i] [value] X.env pos) (by rintro ⟨⟩) (by show (1 : Nat) < 17; decide)]
  refine wpAny_bind (wpAny_standAt (wpAny_bind (wpAny_subDictH (knd := nestedKind X.prog X.w) (Q := fun d s' => wpAny (model X.prog X.w) X.A (pure (Value.ref d)) (EP X pins σ Q) X.xe s') (by show X.A.units + 8 < cLine; omega) (by show 1 ≤ _; decide) ?_)))
  refine pairTrees_cons_walk (thn (hk.run pins _ σ _ _ I1 hq) fun u s1 ⟨x, H1, I2, rx, q1⟩ => thn (hv.run pins s1 σ H1 _ I2 q1) fun w2 s2 ⟨y, H2, I3, ry, e, b, k, ex, hkk, q2⟩ => pairTrees_nil_walk ?_)
  subst ex
  obtain rfl : u = Value.ref b := rx
  obtain ⟨o, es, h1, h2, h3, h4⟩ := raw_obj I3 e
  refine ⟨[(tkN k, b, w2)], ⟨rfl, rfl, ⟨key_is I3 hkk, tkN_depth k⟩, trivial⟩, ⟨o, es, 0, h1, h2, h3, by simpa using h4, by simp, by simp⟩, fun h' tk dd' hs => wpAny_pure ?_⟩
  obtain ⟨ob, es', ep', g1, g2, g3, g4, _, _⟩ := dd'
  exact ⟨.ref s.heap.objs.size, _, d_write I3 (by rw [e]; exact True.intro) hs ⟨ob, g1⟩ (raw_ok (l := [((tkN k).hash X.w, b, w2)]) ⟨ob, es', g1, g2, g3, g4⟩), rfl, q2 ep' w2 ry⟩
end
end Z
set_option Elab.async false
set_option linter.all false
set_option maxRecDepth 100000
set_option maxHeartbeats 2000000
/-! Dicts with nested keys over slots that hold data. -/
namespace Z
open PySem PySem.Spec PyProof.Rows L2 Evl
def hsh (w : World) (en : List En) : List Ent := en.map fun e => ((tkN e.1).hash w, e)
def oN (K : PySem.W.Frag) (w : World) (en : List En) : Ob := ⟨fun G a o => (a == sysModules) = false ∧ (en.map fun (e : En) => tkN e.1).Nodup ∧ ∃ ep l, o = rawD a ep l ∧ Paired (PE' K w G) l en,
  fun _ _ _ _ ex ⟨h1, h2, ep, l, h3, h4⟩ => ⟨h1, h2, ep, l, h3, Paired.mapP h4 fun _ _ => ent_ex ex⟩⟩
section
variable {K : PySem.W.Frag} {G H : Hp} {w : World}
theorem dt_natsV : ∀ {l : List Nat} {vs : List V}, DtAll K G vs (l.map fun (n : Nat) => .int n) → vs = l.map fun (n : Nat) => V.int n
  | [], _, h => by
    cases h
    rfl
  | n :: l, _, h => by
    cases h with
    | cons a b =>
      cases a
      rw [dt_natsV b]
      rfl
theorem dt_natsOf : ∀ (l : List Nat), DtAll K G (l.map fun (n : Nat) => V.int n) (l.map fun (n : Nat) => .int n)
  | [] => .nil
  | n :: l => .cons (.int _) (dt_natsOf l)
theorem nats_dt {v : V} {l : List Nat} (h : Dt K G v (natsD l)) : ∃ b, v = .ref b ∧ NatsOk K G b l := by
  unfold natsD at h
  cases h with
  | tup h1 h2 =>
    have := dt_natsV h2
    subst this
    exact ⟨_, rfl, h1⟩
theorem dt_nats {b : Addr} {l : List Nat} (h : NatsOk K G b l) : Dt K G (.ref b) (natsD l) := .tup h (dt_natsOf l)
theorem nats_dts : ∀ {ls : List (List Nat)} {vs : List V}, DtAll K G vs (ls.map natsD) → ∃ as : List Addr, vs = as.map V.ref ∧ Paired (NatsOk K G) as ls
  | [], _, h => by
    cases h
    exact ⟨[], rfl, .nil⟩
  | n :: l, _, h => by
    cases h with
    | cons a b =>
      obtain ⟨x, rfl, hx⟩ := nats_dt a
      obtain ⟨as, rfl, has⟩ := nats_dts b
      exact ⟨x :: as, rfl, .cons hx has⟩
theorem dts_nats : ∀ {ls : List (List Nat)} {as : List Addr}, Paired (NatsOk K G) as ls → DtAll K G (as.map V.ref) (ls.map natsD)
  | _, _, .nil => .nil
  | _, _, .cons a b => .cons (dt_nats a) (dts_nats b)
theorem dt_boolsOf : ∀ (l : List Bool), DtAll K G (l.map V.bl) (l.map .bool)
  | [] => .nil
  | n :: l => .cons (.bl _) (dt_boolsOf l)
theorem key_dt {v : V} {k : TK} (h : Dt K G v (tkD k)) : ∃ b, v = .ref b ∧ KeyOk K G b k := by
  cases k with
  | inl bs =>
    unfold tkD at h
    cases h with
    | tup h1 h2 =>
      have := dt_bools h2
      subst this
      exact ⟨_, rfl, h1⟩
  | inr ls =>
    unfold tkD at h
    cases h with
    | tup h1 h2 =>
      obtain ⟨as, rfl, has⟩ := nats_dts h2
      exact ⟨_, rfl, as, h1, has⟩
theorem dt_key {b : Addr} {k : TK} (h : KeyOk K G b k) : Dt K G (.ref b) (tkD k) := by
  cases k with
  | inl bs => exact .tup h (dt_boolsOf bs)
  | inr ls =>
    obtain ⟨as, h1, h2⟩ := h
    exact .tup h1 (dts_nats h2)
theorem val_dt {v : V} {k : TV} (h : Dt K G v (tvD k)) : ValV K G v k := by
  cases k with
  | none =>
    cases h
    rfl
  | some l => exact nats_dt h
theorem dt_val {v : V} {k : TV} (h : ValV K G v k) : Dt K G v (tvD k) := by
  cases k with
  | none =>
    have e : v = .bl true := h
    subst e
    exact .bl true
  | some l =>
    obtain ⟨b, rfl, h⟩ := h
    exact dt_nats h
theorem pr_hsh : ∀ {l : List Raw} {en : List En}, Paired (PE' K w G) l en → Paired (EntOk K G) l (hsh w en)
  | _, _, .nil => .nil
  | _, _, .cons a b => .cons a (pr_hsh b)
theorem hsh_pr : ∀ {en : List En} {l : List Raw}, Paired (EntOk K G) l (hsh w en) → Paired (PE' K w G) l en
  | [], _, h => by
    cases h
    exact .nil
  | e :: en, _, h => by
    cases h with
    | cons a b => exact .cons a (hsh_pr b)
theorem tvD_inj : ∀ {a b : TV}, tvD a = tvD b → a = b
  | none, none, _ => rfl
  | none, some b, h => by simp [tvD, natsD] at h
  | some a, none, h => by simp [tvD, natsD] at h
  | some a, some b, h => by
    have h' : a.map (fun (n : Nat) => PyData.int n) = b.map (fun (n : Nat) => PyData.int n) := by simpa [tvD, natsD] using h
    have e2 := congrArg (List.map fun p : PyData => match p with | .int n => n.toNat | _ => 0) h'
    simp [List.map_map, Function.comp_def] at e2
    rw [e2]
theorem ent_tr {x : Raw} {e e' : Ent} (h : EntOk K G x e) (q : entD e = entD e') : EntOk K G x e' := by
  obtain ⟨h1, h2, h3⟩ := h
  simp only [entD, Prod.mk.injEq, PyData.tuple.injEq, List.cons.injEq, PyData.int.injEq, and_true] at q
  obtain ⟨⟨q1, q2⟩, q3⟩ := q
  refine ⟨h1.trans q1, ?_, by rw [← tvD_inj q3]; exact h3⟩
  have d := dt_key h2
  rw [q2] at d
  obtain ⟨b, eb, hb⟩ := key_dt d
  cases eb
  exact hb
theorem ents_tr : ∀ {l : List Raw} {en en' : List Ent}, Paired (EntOk K G) l en → en.map entD = en'.map entD → Paired (EntOk K G) l en'
  | _, _, [], .nil, _ => .nil
  | _, _, _ :: _, .nil, q => by simp at q
  | _, _, [], .cons _ _, q => by simp at q
  | _, _, _ :: _, .cons a b, q => by
    simp only [List.map_cons, List.cons.injEq] at q
    exact .cons (ent_tr a q.1) (ents_tr b q.2)
theorem tab_inv {v : V} {en : List Ent} (h : Dt K G v (tabD en)) : ∃ a ep l, v = .ref a ∧ (a == sysModules) = false ∧ G a = some (rawD a ep l) ∧ Paired (EntOk K G) l en := by
  generalize hk : tabD en = d at h
  cases h with
  | tab h1 h2 h3 =>
    refine ⟨_, _, _, rfl, h1, h2, ents_tr h3 ?_⟩
    unfold tabD at hk
    injection hk with hk
    injection hk with _ hk
    exact hk.symm
  | @scr a ns hs =>
    unfold tabD at hk
    injection hk with hk
    cases ns with
    | nil => simp at hk
    | cons n ns => simp at hk
  | _ => cases hk
end
section
variable {X : Cx} {P : Program} {w : World} {K : PySem.W.Frag} {mg : Str → Option Value} {base : Heap} {N : List Str} {sc : Scope} {k : Nat}
variable {Γ : List Sl} {a b e e1 e2 : Expr} {d : PyData} {pos p px py : Pos} {κ : Kt} {rest sts : List Stmt} {en : List En} {tk : TK} {v : TV}
theorem At.freezeO {G0 H0 G H : Hp} {σ : L2.St} (a : At K G0 H0 Γ σ G H) {i : Nat} {o : Ob} {d : PyData} (hi : Γ[i]? = some (.ob o)) (ho : ∀ G l u, o.φ G l u → G l = none → Dt K (upd G l u) (.ref l) d) : ∃ G', At K G0 H0 (Γ.set i (.dat d)) σ G' H := by
  obtain ⟨l, u, e, h0, hg, h1, p⟩ := a.sl i _ hi
  have ex : Ex G (upd G l u) := Ex.new hg
  refine ⟨upd G l u, gr_freeze a.gr h0 hg h1, by simp [a.len], fun j s hj => ?_, fun j k o1 o2 ne hj hk => ?_⟩
  · by_cases q : i = j
    · subst q
      have hlt : i < Γ.length := by simpa using (List.getElem?_eq_some_iff.mp hj).1
      rw [List.getElem?_set_self hlt] at hj
      cases hj
      exact ⟨_, e, ho _ _ _ p hg⟩
    · rw [List.getElem?_set_ne q] at hj
      have z := a.sl j s hj
      cases s with
      | un => trivial
      | dat d' =>
        obtain ⟨v, e1, h1⟩ := z
        exact ⟨v, e1, dp_ex ex _ _ h1⟩
      | ob o1 =>
        obtain ⟨l1, u1, e1, h01, hg1, hh1, p1⟩ := z
        have nl : l1 ≠ l := fun z => a.ap i j _ _ q hi hj l e (by rw [e1, z])
        exact ⟨l1, u1, e1, h01, by rw [upd_ne nl]; exact hg1, hh1, o1.mono _ _ _ _ ex p1⟩
  · have f : ∀ {m : Nat} {u : Ob}, (Γ.set i (.dat d))[m]? = some (.ob u) → Γ[m]? = some (.ob u) := fun {m u} q => by
      by_cases e : i = m
      · subst e
        have hi : i < Γ.length := by simpa using (List.getElem?_eq_some_iff.mp q).1
        rw [List.getElem?_set_self hi] at q
        cases q
      · rw [List.getElem?_set_ne e] at q
        exact q
    exact a.ap j k o1 o2 ne (f hj) (f hk)
theorem ss_freezeN {i : Nat} (hi : Γ[i]? = some (.ob (oN X.K w en))) (h : Ss X (Γ.set i (.dat (tabD (hsh w en)))) sts κ) : Ss X Γ sts κ := fun G0 H0 D M σ G H hA => by
  obtain ⟨G', a⟩ := hA.freezeO hi (d := tabD (hsh w en)) fun G l u ⟨h1, _, ep, xl, h3, h4⟩ hg => by
    subst h3
    exact .tab h1 upd_same (Paired.mapP (pr_hsh h4) fun _ _ => ent_ex (Ex.new hg))
  exact h G0 H0 D M σ G' H a
/-- x = {} -/
theorem setN0 (F : XF X P w K mg base N sc k) (xd : XD X) (i : Nat) {x : Str} (h : Ss X (Γ.set i (.ob (oN X.K w []))) rest κ) (hN : N[i]? = some x := by rfl) (hl : locB sc x = true := by rfl) : Ss X Γ (.Assign [.Name x p] (.Dict [] [] px) pos :: rest) κ := ss_cons fun G0 H0 D M σ G H hA pins s I =>
  (ps_set (i := i) (by rw [F.hN]; exact F.nd) (by rw [F.hN]; exact hN) (by rw [F.hsc]; exact loc_of hl) pe_dnewN (by rfl) (.inl (xd.fn x))).run pins s σ H D I fun q hq hs => M.nx _ h _ G _ (hA.own (G' := G) ⟨Ex.refl _, hA.gr.gh.trans (Ex.new hq), Ex.new hq, fun _ _ _ g => g⟩ hq (fresh_back hA.gr.gh hq) upd_same ⟨hs, by simp, 0, [], rfl, .nil⟩)
/-- x = {e1: e2} -/
theorem setN1 (F : XF X P w K mg base N sc k) (xd : XD X) (i : Nat) {x : Str} (h1 : E X Γ e1 (tkD tk)) (h2 : E X Γ e2 (tvD v)) (h : Ss X (Γ.set i (.ob (oN X.K w [(tk, v)]))) rest κ) (hN : N[i]? = some x := by rfl) (hl : locB sc x = true := by rfl)
    (hsw : swapsWith (.Dict [some e1] [e2] px) (some (.Name x p)) pos.line X.env = pure false := by rfl) : Ss X Γ (.Assign [.Name x p] (.Dict [some e1] [e2] px) pos :: rest) κ := ss_cons fun G0 H0 D M σ G H hA pins s I =>
  (ps_set (i := i) (by rw [F.hN]; exact F.nd) (by rw [F.hN]; exact hN) (by rw [F.hsc]; exact loc_of hl) (pe_dispN F.hu peS peS) hsw (.inl (xd.fn x))).run pins s σ H D I fun q hq hs => by
    have g0 : Gr G H G (upd H q (rawD q 0 [])) := Gr.more hA.gr.gh (Ex.new hq)
    have gq : G q = none := fresh_back hA.gr.gh hq
    refine h1 G0 H0 σ G _ (hA.grow g0) _ fun v1 G1 H1 g1 d1 => ?_
    refine h2 G0 H0 σ G1 H1 ((hA.grow g0).grow g1) _ fun v2 G2 H2 g2 d2 => ?_
    obtain ⟨b, rfl, hb⟩ := key_dt (dp_ex g2.gg _ _ d1)
    have hv := val_dt d2
    have g12 := g1.trans g2
    have q2 : H2 q = some (rawD q 0 []) := g12.hh _ _ upd_same
    have gq2 : G2 q = none := g12.fr q _ upd_same gq
    refine ⟨q2, b, tk, rfl, keyok_ex g2.gh hb, fun ep u ru => M.nx _ h _ G2 _ (hA.own (gr_mut (g0.trans g12) hq gq2) hq gq2 upd_same ⟨hs, by simp, ep, _, rfl, .cons ⟨by rw [F.hw], hb, of_val hv ru⟩ .nil⟩)⟩
theorem own_isN (F : XF X P w K mg base N sc k) {G0 H0 G H : Hp} {σ : L2.St} (hA : At X.K G0 H0 Γ σ G H) {i : Nat} (hi : Γ[i]? = some (.ob (oN X.K w en))) : ∃ a ep l, σ[i]? = some (some (.ref a)) ∧ H0 a = none ∧ G a = none ∧ IsN X G H a ep l en := by
  obtain ⟨l, u, e, h0, hg, hh, h1, h2, ep, xl, rfl, h4⟩ := hA.sl i _ hi
  exact ⟨l, ep, xl, e, h0, hg, ⟨h1, hh, hA.gr.gh, by rw [F.hw]; exact h4, h2⟩⟩
theorem IsN.grow {G H G' H' : Hp} {a : Addr} {ep : Nat} {l : List Raw} (D : IsN X G H a ep l en) (g : Gr G H G' H') : IsN X G' H' a ep l en := ⟨D.sys, g.hh _ _ D.at_, g.gh, Paired.mapP D.pr fun _ _ => ent_ex g.gg, D.nd⟩
/-- e not in x, x one's own -/
theorem t_ninN (F : XF X P w K mg base N sc k) (i : Nat) {x : Str} (he : E X Γ e (tkD tk)) (hi : Γ[i]? = some (.ob (oN X.K w en)) := by rfl) (hN : N[i]? = some x := by rfl) (hv : visB sc x = true := by rfl)
    (hd : (x == ("__debug__" : Str)) = false := by decide) (hcd : (x == ("__classdict__" : Str)) = false := by decide) : T X Γ (.Compare e [.NotIn] [.Name x p] pos) (!(lk en (tkN tk)).isSome) :=
  t_of (pt_cmpR (op_notInN F.hu) peS (pe_var (i := i) (by rw [F.hN]; exact hN) (by rw [F.hsc]; exact vis_of hv) hd hcd) rfl) (evb_test (te := tOp _ _ _) fun G0 H0 σ G H hA Q hQ => he G0 H0 σ G H hA _ fun v1 G1 H1 g1 d1 => by
    obtain ⟨b, rfl, hb⟩ := key_dt d1
    obtain ⟨a, ep, l, e1, _, _, D⟩ := own_isN F (hA.grow g1) hi
    exact ⟨_, e1, a, b, G1, ep, l, en, tk, rfl, rfl, D, keyok_ex g1.gh hb, hQ _ G1 H1 g1 (.bl _)⟩)
/-- len(x) -/
theorem e_lenN (F : XF X P w K mg base N sc k) (bn : BN mg) (i : Nat) {x : Str} (hz : en.length ≤ 1000) (hi : Γ[i]? = some (.ob (oN X.K w en)) := by rfl) (hN : N[i]? = some x := by rfl) (hv : visB sc x = true := by rfl) (hg : glB sc "len" = true := by rfl)
    (hd : (x == ("__debug__" : Str)) = false := by decide) (hcd : (x == ("__classdict__" : Str)) = false := by decide) : E X Γ (.Call (.Name "len" p) [.Name x px] [] pos) (.int (en.length : Nat)) :=
  e_of (pe_callB call_lenN (F.gl hg) (F.none bn.len) (by decide +kernel) (pa_cons (pe_var (i := i) (by rw [F.hN]; exact hN) (by rw [F.hsc]; exact vis_of hv) hd hcd) pa_nil)) fun G0 H0 σ G H hA Q hQ => by
    obtain ⟨a, ep, l, e1, _, _, D⟩ := own_isN F hA hi
    exact ⟨_, e1, a, G, ep, l, en, rfl, D, hz, hQ _ G H (Gr.refl hA.gr.gh) (.int _)⟩
/-- x[e], x one's own -/
theorem e_getO (F : XF X P w K mg base N sc k) (i : Nat) {x : Str} (he : E X Γ e (tkD tk)) (hk : lk en (tkN tk) = some v) (hi : Γ[i]? = some (.ob (oN X.K w en)) := by rfl) (hN : N[i]? = some x := by rfl) (hv : visB sc x = true := by rfl)
    (hs : NoSl e := by exact fun _ _ => rfl) (hd : (x == ("__debug__" : Str)) = false := by decide) (hcd : (x == ("__classdict__" : Str)) = false := by decide) : E X Γ (.Subscript (.Name x p) e pos) (tvD v) :=
  e_of (pe_getN F.hu (pe_var (i := i) (by rw [F.hN]; exact hN) (by rw [F.hsc]; exact vis_of hv) hd hcd) peS hs) fun G0 H0 σ G H hA Q hQ => by
    obtain ⟨a, ep, l, e1, _, _, D⟩ := own_isN F hA hi
    refine ⟨_, e1, he G0 H0 σ G H hA _ fun v1 G1 H1 g1 d1 => ?_⟩
    obtain ⟨b, rfl, hb⟩ := key_dt d1
    exact ⟨a, b, G1, ep, l, en, tk, v, rfl, rfl, D.grow g1, keyok_ex g1.gh hb, hk, fun r hr => hQ r G1 H1 g1 (dt_val hr)⟩
/-- t[e], t a table that stands still -/
theorem e_getT (F : XF X P w K mg base N sc k) (ht : E X Γ a (tabD (hsh w en))) (nd : (en.map fun (e : En) => tkN e.1).Nodup) (he : E X Γ e (tkD tk)) (hk : lk en (tkN tk) = some v) (hs : NoSl e := by exact fun _ _ => rfl) : E X Γ (.Subscript a e pos) (tvD v) :=
  e_of (pe_getN F.hu peS peS hs) fun G0 H0 σ G H hA Q hQ => ht G0 H0 σ G H hA _ fun v1 G1 H1 g1 d1 => he G0 H0 σ G1 H1 (hA.grow g1) _ fun v2 G2 H2 g2 d2 => by
    obtain ⟨a, ep, l, rfl, h1, h2, h3⟩ := tab_inv d1
    obtain ⟨b, rfl, hb⟩ := key_dt d2
    exact ⟨a, b, G2, ep, l, en, tk, v, rfl, rfl, ⟨h1, g2.gh _ _ (g2.gg _ _ h2), g2.gh, by rw [F.hw]; exact Paired.mapP (hsh_pr h3) fun _ _ => ent_ex g2.gg, nd⟩, keyok_ex g2.gh hb, hk, fun r hr => hQ r G2 H2 (g1.trans g2) (dt_val hr)⟩
/-- x[e1] = e2, e1 new -/
theorem putN (F : XF X P w K mg base N sc k) (i : Nat) {x : Str} {spos : Pos} (h1 : E X Γ e1 (tkD tk)) (h2 : E X Γ e2 (tvD v)) (hk : lk en (tkN tk) = none) (hz : en.length ≤ 1000) (h : Ss X (Γ.set i (.ob (oN X.K w (en ++ [(tk, v)])))) rest κ) (hi : Γ[i]? = some (.ob (oN X.K w en)) := by rfl) (hN : N[i]? = some x := by rfl) (hv : visB sc x = true := by rfl)
    (hsw : swapsWith e2 (some (.Subscript (.Name x px) e1 spos)) pos.line X.env = pure false := by rfl)
    (hd : (x == ("__debug__" : Str)) = false := by decide) (hcd : (x == ("__classdict__" : Str)) = false := by decide) : Ss X Γ (.Assign [.Subscript (.Name x px) e1 spos] e2 pos :: rest) κ := ss_cons fun G0 H0 D M σ G H hA pins s I => by
  refine (ps_putN F.hu (pe_var (i := i) (by rw [F.hN]; exact hN) (by rw [F.hsc]; exact vis_of hv) hd hcd) peS peS hsw).run pins s σ H D I ?_
  refine h2 G0 H0 σ G H hA _ fun v2 G1 H1 g1 d2 => ?_
  obtain ⟨a, ep, l, ea, h0, hg, D1⟩ := own_isN F (hA.grow g1) hi
  refine ⟨_, ea, h1 G0 H0 σ G1 H1 (hA.grow g1) _ fun v1 G2 H2 g2 d1 => ?_⟩
  obtain ⟨b, rfl, hb⟩ := key_dt d1
  have hv2 := val_dt (dp_ex g2.gg _ _ d2)
  have D2 := D1.grow g2
  refine ⟨a, b, G2, ep, l, en, tk, rfl, rfl, D2, keyok_ex g2.gh hb, hk, hz, fun ep' u ru => M.nx _ h _ G2 _ (((hA.grow g1).grow g2).chg hi ea ⟨D2.sys, ?_, ep', _, rfl, ?_⟩)⟩
  · rw [List.map_append, List.nodup_append]
    refine ⟨D2.nd, by simp, fun x hx y hy e => ?_⟩
    simp at hy
    exact lk_none hk (by rw [← hy, ← e]; exact hx)
  · have app : ∀ {l : List Raw} {en : List En} {x : Raw} {e : En}, Paired (PE' X.K w G2) l en → PE' X.K w G2 x e → Paired (PE' X.K w G2) (l ++ [x]) (en ++ [e]) := fun {l en x e} h hx => by
      induction h with
      | nil => exact .cons hx .nil
      | cons a _ ih => exact .cons a ih
    have pr := D2.pr
    rw [F.hw] at pr ⊢
    exact app pr ⟨rfl, hb, of_val hv2 ru⟩
/-- for .. in t -/
theorem src_tab {tg : Expr} (F : XF X P w K mg base N sc k) (ht : E X Γ a (tabD (hsh w en))) : Src X Γ tg a (en.map fun (e : En) => tkD e.1) :=
  ⟨_, pi_keysN peS, fun G0 H0 σ G H hA R hR => ht G0 H0 σ G H hA _ fun v1 G1 H1 g1 d1 => by
    obtain ⟨a, ep, l, rfl, h1, h2, h3⟩ := tab_inv d1
    have hp := hsh_pr h3
    have hl : l.length = en.length := Paired.length hp
    refine ⟨a, ep, l, rfl, h1, g1.gh _ _ h2, hR _ G1 H1 g1 ⟨fun i H' hi e => ⟨e _ _ h2, by rw [List.length_map] at hi; omega⟩, fun i d x G2 H2 H3 hd hy e e2 => ?_, fun H' e => ⟨e _ _ h2, by rw [List.length_map]; omega⟩⟩⟩
    obtain ⟨rfl, y, hy1, rfl⟩ := hy
    have get : ∀ {l : List Raw} {en : List En} {i : Nat} {y : Raw}, Paired (PE' K w G1) l en → l[i]? = some y → ∃ e, en[i]? = some e ∧ PE' K w G1 y e := fun {l en i y} h => by
      induction h generalizing i with
      | nil => intro q; simp at q
      | cons a _ ih =>
        intro q
        cases i with
        | zero =>
          simp at q
          subst q
          exact ⟨_, rfl, a⟩
        | succ i => simpa using ih (by simpa using q)
    rw [F.hK] at hp ⊢
    obtain ⟨en1, q1, q2⟩ := get hp hy1
    rw [List.getElem?_map, q1] at hd
    cases hd
    exact ⟨G2, Gr.refl e2, dp_ex e _ _ (dt_key q2.2.1)⟩⟩
end
end Z
set_option Elab.async false
set_option linter.all false
set_option maxRecDepth 100000
set_option maxHeartbeats 4000000
namespace Z
open PySem PySem.Spec PyProof.Rows L2 Evl
section
variable {P : Program} {w : World} {K : PySem.W.Frag} {mg : Str → Option Value} {base : Heap}
def d_is_integer : List PyData → PyData → Prop := fun ds r => ∃ i : Int, ds = [.int i] ∧ r = .bool true
theorem w_is_integer {f : Addr} {fd : FuncData} (Fn : FnP K "is_integer" s_is_integer f fd) (hm : mg "is_integer" = some (.ref f)) (bn : BN mg) : FnF P w K mg base "is_integer" 1 d_is_integer := by
  refine fn_mk Fn hm c_is_integer (fun ds r ⟨i, h, _⟩ => by rw [h]; rfl) (fun _ _ _ _ _ _ us hl => match us, hl with | [_], _ => rfl) fun X F xd ds r ⟨i, h, hr⟩ => ?_
  subst h hr
  have e0 : ∀ {pos}, E X [.dat (.int i)] (.Name "value" pos) (.int i) := fun {pos} => e_name F 0 rfl rfl rfl
  refine ss_cons (s_ret (d := .bool (true && true)) ?_ rfl)
  exact e_and2 (e_isiInt F bn e0 rfl rfl rfl) fun _ => e_not (v := false) (e_isiBool F bn e0 rfl rfl rfl)
def d_is_between : List PyData → PyData → Prop := fun ds r => ∃ i a b : Int, ds = [.int i, .int a, .int b] ∧ r = .bool (decide (a ≤ i) && decide (i ≤ b))
theorem w_is_between {f : Addr} {fd : FuncData} (Fn : FnP K "is_between" s_is_between f fd) (hm : mg "is_between" = some (.ref f)) (f1 : FnF P w K mg base "is_integer" 1 d_is_integer) : FnF P w K mg base "is_between" 2 d_is_between := by
  refine fn_mk Fn hm c_is_between (fun ds r ⟨i, a, b, h, _⟩ => by rw [h]; rfl) (fun _ _ _ _ _ _ us hl => match us, hl with | [_, _, _], _ => rfl) fun X F xd ds r ⟨i, a, b, h, hr⟩ => ?_
  subst h hr
  refine ss_cons (s_ret (d := .bool (true && (decide (a ≤ i) && decide (i ≤ b)))) ?_ (by simp))
  exact e_and2 (e_call F f1 (by decide) rfl (as_cons (e_name F 0 rfl rfl rfl) as_nil) ⟨i, rfl, rfl⟩) fun _ => e_chain_le (e_name F 1 rfl rfl rfl) (e_name F 0 rfl rfl rfl) (e_name F 2 rfl rfl rfl)
end
end Z
set_option Elab.async false
set_option linter.all false
set_option maxRecDepth 100000
set_option maxHeartbeats 4000000
namespace Z
open PySem PySem.Spec PyProof.Rows L2 Evl
/-! ### well-formed -/
def wfP (p : Bts) : Prop := p.length ≤ 20 ∧ ∀ b ∈ p, b ≤ 255
def NF.most : NF → Int | .size => 2147483647 | _ => 100
def Bd.wf : Bd → Prop
  | .num f _ n => 0 ≤ n ∧ n ≤ f.most
  | .isk _ => True
  | .could k => k ≠ .no
  | .act _ => True
  | .nam p => wfP p
def Rl.wf (r : Rl) : Prop := r.ts.length ≤ 3 ∧ ∀ t ∈ r.ts, t.body.wf
def wfPol (p : List Rl) : Prop := p.length ≤ 4 ∧ ∀ r ∈ p, r.wf
theorem all_true {α : Type} {ds : List α} : (ds.all fun _ => true) = true := List.all_eq_true.mpr fun _ _ => rfl
theorem inV_strs (x : Str) (ss : List Str) : inV (.str x) (ss.map V.str) = decide (x ∈ ss) := by
  induction ss with
  | nil => rfl
  | cons s ss ih =>
    show (eqV (.str s) (.str x) || inV (.str x) (ss.map V.str)) = _
    rw [ih]
    have : eqV (.str s) (.str x) = decide (s = x) := by
      by_cases h : s = x
      · subst h; simp [eqV]
      · simp [eqV, h]
    rw [this]
    by_cases h : s = x
    · subst h; simp
    · have h' : ¬ x = s := fun e => h e.symm
      simp [h, h']
theorem flat_strs' (ss : List Str) : (ss.map PyData.str).map flatD = (ss.map V.str).map some := by simp [flatD, Function.comp_def]
section
variable {P : Program} {w : World} {K : PySem.W.Frag} {mg : Str → Option Value} {base : Heap}
def d_is_pattern : List PyData → PyData → Prop := fun ds r => ∃ p : Bts, wfP p ∧ ds = [dNs p] ∧ r = .bool true
theorem w_is_pattern {f : Addr} {fd : FuncData} (Fn : FnP K "is_pattern" s_is_pattern f fd) (hm : mg "is_pattern" = some (.ref f)) (bn : BN mg) (cg : CG K w mg) (f1 : FnF P w K mg base "is_between" 2 d_is_between) : FnF P w K mg base "is_pattern" 3 d_is_pattern := by
  refine fn_mk Fn hm c_is_pattern (fun ds r ⟨i, _, h, _⟩ => by rw [h]; rfl) (fun _ _ _ _ _ _ us hl => match us, hl with | [_], _ => rfl) fun X F xd ds r ⟨p, wf, h, hr⟩ => ?_
  subst h hr
  have e0 : ∀ {pos}, E X [.dat (dNs p), .un] (.Name "value" pos) (.tuple (p.map dN)) := fun {pos} => nm F 0
  refine when_ (t_or2 (t_not (t_val (e_isiTup F bn e0 rfl rfl rfl))) fun _ => t_gt (e_lenT F bn e0 rfl) (gi F cg.mpat)) (fun h => ?_) fun _ => ?_
  · have h1 := wf.1
    simp at h
    omega
  · refine ret (d := .bool (p.all fun _ => true)) (allOf F bn p (fun _ => true) (lcA F 1 p dN (src_tup e0) (fun _ => .bool true) (fun Y FY b hb => ?_) (by have := wf.1; omega))) (by rw [all_true])
    have h2 := wf.2 b hb
    exact ca3 FY f1 (nm FY 1) e_int e_int ⟨_, _, _, rfl, by simp; omega⟩
def d_is_word : List PyData → PyData → Prop := fun ds r => ∃ (x : Str) (ss : List Str), ds = [.str x, .tuple (ss.map .str)] ∧ r = .bool (decide (x ∈ ss))
theorem w_is_word {f : Addr} {fd : FuncData} (Fn : FnP K "is_word" s_is_word f fd) (hm : mg "is_word" = some (.ref f)) (bn : BN mg) : FnF P w K mg base "is_word" 1 d_is_word := by
  refine fn_mk Fn hm c_is_word (fun ds r ⟨i, _, h, _⟩ => by rw [h]; rfl) (fun _ _ _ _ _ _ us hl => match us, hl with | [_, _], _ => rfl) fun X F xd ds r ⟨x, ss, h, hr⟩ => ?_
  subst h hr
  refine ret (e_and2 (e_isiStr F bn (nm F 0) rfl rfl rfl) fun _ => e_in (nm F 0) (nm F 1) rfl rfl (flat_strs' ss)) ?_
  simp [inV_strs]
end
end Z
set_option Elab.async false
set_option linter.all false
set_option maxRecDepth 100000
set_option maxHeartbeats 4000000
namespace Z
open PySem PySem.Spec PyProof.Rows L2 Evl
section
variable {P : Program} {w : World} {K : PySem.W.Frag} {mg : Str → Option Value} {base : Heap}
theorem at0 {α : Type} {x : α} {r : List α} : atI (x :: r) 0 = some x := by
  have := atI_nn (xs := x :: r) (i := 0) (d := x) rfl
  exact this
def sgL : List Str := ["<", "<=", "=", ">=", ">"]
def kdL : List Str := ["still", "picture", "film", "sheet", "folio", "crate"]
def acL : List Str := ["open", "file", "link", "form", "fetch", "script"]
def vdL : List Str := ["clean", "hold", "drop"]
theorem sg_mem (s : Sg) : s.str ∈ sgL := by cases s <;> decide +kernel
theorem kd_mem (k : Kd) (h : k ≠ .no) : k.str ∈ kdL := by cases k <;> first | exact absurd rfl h | decide +kernel
theorem kd_mem0 (k : Kd) : k.str ∈ ("" : Str) :: kdL := by cases k <;> decide +kernel
theorem ac_mem (s : Ac) : s.str ∈ acL := by cases s <;> decide +kernel
theorem vd_mem (s : Vd) : s.str ∈ vdL := by cases s <;> decide +kernel
theorem mo_mem (g : NF) : g.str ∈ ([("size", 2147483647), ("pages", 100), ("acts", 100), ("depth", 100)] : List (Str × Int)).map (·.1) := by cases g <;> decide +kernel
theorem mo_most (g : NF) : (g.str, g.most) ∈ ([("size", 2147483647), ("pages", 100), ("acts", 100), ("depth", 100)] : List (Str × Int)) := by cases g <;> decide +kernel
def d_is_body : List PyData → PyData → Prop := fun ds r => ∃ b : Bd, b.wf ∧ ds = [dB b] ∧ r = .bool true
theorem s2_ne {a b : Str} (h : a ≠ b) : decide (a = b) = false := decide_eq_false h
theorem w_is_body {f : Addr} {fd : FuncData} (Fn : FnP K "is_body" s_is_body f fd) (hm : mg "is_body" = some (.ref f)) (bn : BN mg) (cg : CG K w mg) (f1 : FnF P w K mg base "is_between" 2 d_is_between) (f2 : FnF P w K mg base "is_word" 1 d_is_word) (f3 : FnF P w K mg base "is_pattern" 3 d_is_pattern) : FnF P w K mg base "is_body" 4 d_is_body := by
  refine fn_mk Fn hm c_is_body (fun ds r ⟨i, _, h, _⟩ => by rw [h]; rfl) (fun _ _ _ _ _ _ us hl => match us, hl with | [_], _ => rfl) fun X F xd ds r ⟨b, wf, h, hr⟩ => ?_
  subst h hr
  obtain ⟨x, rest, hb⟩ : ∃ x rest, dB b = .tuple (.str b.word :: x :: rest) := by cases b <;> exact ⟨_, _, rfl⟩
  have e0 : ∀ {pos}, E X [.dat (dB b)] (.Name "value" pos) (.tuple (.str b.word :: x :: rest)) := fun {pos} => hb ▸ nm F 0
  have e1 : ∀ {pos pos' pos'' j}, E X [.dat (dB b)] (.Subscript (.Name "value" pos) (.Constant (.int 0) j pos') pos'') (.str b.word) := fun {_ _ _ _} => e_ixT e0 e_int at0
  refine when_ (tw_t (tw_or (t_not (t_val (e_isiTup F bn e0 rfl rfl rfl))) fun _ => tw_or (t_lt (e_lenT F bn e0 rfl) e_int) fun _ => tw_or1 (t_not (t_val (e_isiStr F bn e1 rfl rfl rfl))))) (fun h => ?_) fun _ => ?_
  · exfalso
    simp at h
    omega
  cases b with
  | num g s n =>
    have e0' : ∀ {pos}, E X [.dat (dB (.num g s n))] (.Name "value" pos) (.tuple [.str g.str, .str s.str, .int n]) := fun {pos} => nm F 0
    refine when_ (v := true) (t_inKD F cg.most e1 (.inl ⟨rfl, mo_mem g⟩)) (fun _ => ?_) (fun h => by cases h)
    refine ret (d := .bool (decide ((3 : Int) = 3) && (decide (s.str ∈ sgL) && (decide (0 ≤ n) && decide (n ≤ g.most))))) (e_and (e_eq (e_lenT F bn e0' rfl) e_int (.int _ _)) fun _ => e_and (ca2 F f2 (e_ixT e0' e_int rfl) (gt F cg.signs) ⟨_, sgL, rfl, rfl⟩) fun _ => e_one (ca3 F f1 (e_ixT e0' e_int rfl) e_int (e_ixKD F cg.most e1 (i := g.most) (mo_most g)) ⟨_, _, _, rfl, rfl⟩)) ?_
    have h1 := sg_mem s
    have h2 : 0 ≤ n ∧ n ≤ g.most := wf
    simp [h1, h2.1, h2.2]
  | isk kk =>
    have e0' : ∀ {pos}, E X [.dat (dB (.isk kk))] (.Name "value" pos) (.tuple [.str "is", .str kk.str]) := fun {pos} => nm F 0
    refine when_ (v := false) (t_inKD F cg.most e1 (.inr ⟨rfl, by show ("is" : Str) ∈ _; decide +kernel⟩)) (fun h => by cases h) fun _ => ?_
    refine when_ (t_ne (e_lenT F bn e0' rfl) e_int (.int _ _)) (fun h => by simp at h) fun _ => ?_
    refine when_ (t_eq (e1) e_str (.str _ _)) (fun _ => ?_) (fun h => by simp [Bd.word] at h)
    refine ret (ca2 F f2 (e_ixT e0' e_int rfl) (e_tup (as_cons e_str (as_star (gt F cg.kinds) rfl as_nil)) (by decide)) ⟨_, ("" : Str) :: kdL, rfl, rfl⟩) ?_
    have := kd_mem0 kk
    simp only [this, decide_true]
  | could kk =>
    have e0' : ∀ {pos}, E X [.dat (dB (.could kk))] (.Name "value" pos) (.tuple [.str "could", .str kk.str]) := fun {pos} => nm F 0
    refine when_ (v := false) (t_inKD F cg.most e1 (.inr ⟨rfl, by show ("could" : Str) ∈ _; decide +kernel⟩)) (fun h => by cases h) fun _ => ?_
    refine when_ (t_ne (e_lenT F bn e0' rfl) e_int (.int _ _)) (fun h => by simp at h) fun _ => ?_
    refine when_ (t_eq (e1) e_str (.str _ _)) (fun h => absurd (of_decide_eq_true h) (by show ¬ ("could" : Str) = "is"; decide +kernel)) fun _ => ?_
    refine when_ (t_eq (e1) e_str (.str _ _)) (fun _ => ?_) (fun h => by simp [Bd.word] at h)
    refine ret (ca2 F f2 (e_ixT e0' e_int rfl) (gt F cg.kinds) ⟨_, kdL, rfl, rfl⟩) ?_
    have := kd_mem kk wf
    simp only [this, decide_true]
  | act a =>
    have e0' : ∀ {pos}, E X [.dat (dB (.act a))] (.Name "value" pos) (.tuple [.str "act", .str a.str]) := fun {pos} => nm F 0
    refine when_ (v := false) (t_inKD F cg.most e1 (.inr ⟨rfl, by show ("act" : Str) ∈ _; decide +kernel⟩)) (fun h => by cases h) fun _ => ?_
    refine when_ (t_ne (e_lenT F bn e0' rfl) e_int (.int _ _)) (fun h => by simp at h) fun _ => ?_
    refine when_ (t_eq (e1) e_str (.str _ _)) (fun h => absurd (of_decide_eq_true h) (by show ¬ ("act" : Str) = "is"; decide +kernel)) fun _ => ?_
    refine when_ (t_eq (e1) e_str (.str _ _)) (fun h => absurd (of_decide_eq_true h) (by show ¬ ("act" : Str) = "could"; decide +kernel)) fun _ => ?_
    refine when_ (t_eq (e1) e_str (.str _ _)) (fun _ => ?_) (fun h => by simp [Bd.word] at h)
    refine ret (ca2 F f2 (e_ixT e0' e_int rfl) (gt F cg.acts) ⟨_, acL, rfl, rfl⟩) ?_
    have := ac_mem a
    simp only [this, decide_true]
  | nam p =>
    have e0' : ∀ {pos}, E X [.dat (dB (.nam p))] (.Name "value" pos) (.tuple [.str "name", dNs p]) := fun {pos} => nm F 0
    refine when_ (v := false) (t_inKD F cg.most e1 (.inr ⟨rfl, by show ("name" : Str) ∈ _; decide +kernel⟩)) (fun h => by cases h) fun _ => ?_
    refine when_ (t_ne (e_lenT F bn e0' rfl) e_int (.int _ _)) (fun h => by simp at h) fun _ => ?_
    refine when_ (t_eq (e1) e_str (.str _ _)) (fun h => absurd (of_decide_eq_true h) (by show ¬ ("name" : Str) = "is"; decide +kernel)) fun _ => ?_
    refine when_ (t_eq (e1) e_str (.str _ _)) (fun h => absurd (of_decide_eq_true h) (by show ¬ ("name" : Str) = "could"; decide +kernel)) fun _ => ?_
    refine when_ (t_eq (e1) e_str (.str _ _)) (fun h => absurd (of_decide_eq_true h) (by show ¬ ("name" : Str) = "act"; decide +kernel)) fun _ => ?_
    refine ret (e_and2 (e_eq e1 e_str (.str _ _)) fun _ => ca1 F f3 (e_ixT e0' e_int rfl) ⟨p, wf, rfl, rfl⟩) ?_
    simp [Bd.word]
def d_is_term : List PyData → PyData → Prop := fun ds r => ∃ t : Tm, t.body.wf ∧ ds = [dT t] ∧ r = .bool true
theorem w_is_term {f : Addr} {fd : FuncData} (Fn : FnP K "is_term" s_is_term f fd) (hm : mg "is_term" = some (.ref f)) (bn : BN mg) (f1 : FnF P w K mg base "is_body" 4 d_is_body) : FnF P w K mg base "is_term" 5 d_is_term := by
  refine fn_mk Fn hm c_is_term (fun ds r ⟨i, _, h, _⟩ => by rw [h]; rfl) (fun _ _ _ _ _ _ us hl => match us, hl with | [_], _ => rfl) fun X F xd ds r ⟨t, wf, h, hr⟩ => ?_
  subst h hr
  have e0 : ∀ {pos}, E X [.dat (dT t)] (.Name "value" pos) (.tuple [.bool t.neg, dB t.body]) := fun {pos} => nm F 0
  refine ret (d := .bool (true && (decide ((2 : Int) = 2) && (true && true)))) (e_and (e_isiTup F bn e0 rfl rfl rfl) fun _ => e_and (e_eq (e_lenT F bn e0 rfl) e_int (.int _ _)) fun _ => e_and (e_isiBool F bn (e_ixT e0 e_int rfl) rfl rfl rfl) fun _ => e_one (ca1 F f1 (e_ixT e0 e_int rfl) ⟨_, wf, rfl, rfl⟩)) rfl
def d_is_rule : List PyData → PyData → Prop := fun ds r => ∃ t : Rl, t.wf ∧ ds = [dR t] ∧ r = .bool true
theorem w_is_rule {f : Addr} {fd : FuncData} (Fn : FnP K "is_rule" s_is_rule f fd) (hm : mg "is_rule" = some (.ref f)) (bn : BN mg) (cg : CG K w mg) (f1 : FnF P w K mg base "is_term" 5 d_is_term) (f2 : FnF P w K mg base "is_word" 1 d_is_word) : FnF P w K mg base "is_rule" 6 d_is_rule := by
  refine fn_mk Fn hm c_is_rule (fun ds r ⟨i, _, h, _⟩ => by rw [h]; rfl) (fun _ _ _ _ _ _ us hl => match us, hl with | [_], _ => rfl) fun X F xd ds r ⟨t, wf, h, hr⟩ => ?_
  subst h hr
  have e0 : ∀ {pos}, E X [.dat (dR t), .un] (.Name "value" pos) (.tuple [.str t.v.str, .tuple (t.ts.map dT)]) := fun {pos} => nm F 0
  have e1 : ∀ {pos pos' pos'' j}, E X [.dat (dR t), .un] (.Subscript (.Name "value" pos) (.Constant (.int 1) j pos') pos'') (.tuple (t.ts.map dT)) := fun {_ _ _ _} => e_ixT e0 e_int rfl
  have h1 := vd_mem t.v
  refine when_ (tw_t (tw_or (t_not (t_val (e_isiTup F bn e0 rfl rfl rfl))) fun _ => tw_or (t_ne (e_lenT F bn e0 rfl) e_int (.int _ _)) fun _ => tw_or1 (t_not (t_val (ca2 F f2 (e_ixT e0 e_int rfl) (gt F cg.verdicts) ⟨_, vdL, rfl, rfl⟩))))) (fun h => by simp [h1] at h) fun _ => ?_
  refine when_ (t_or2 (t_not (t_val (e_isiTup F bn e1 rfl rfl rfl))) fun _ => t_gt (e_lenT F bn e1 rfl) (gi F cg.mterm)) (fun h => ?_) fun _ => ?_
  · have := wf.1
    simp at h
    omega
  · refine ret (d := .bool (t.ts.all fun _ => true)) (allOf F bn t.ts (fun _ => true) (lcA F 1 t.ts dT (src_tup e1) (fun _ => .bool true) (fun Y FY b hb => ?_) (by have := wf.1; omega))) (by rw [all_true])
    exact ca1 FY f1 (nm FY 1) ⟨_, wf.2 b hb, rfl, rfl⟩
def d_is_policy : List PyData → PyData → Prop := fun ds r => ∃ p : List Rl, wfPol p ∧ ds = [dP p] ∧ r = .bool true
theorem w_is_policy {f : Addr} {fd : FuncData} (Fn : FnP K "is_policy" s_is_policy f fd) (hm : mg "is_policy" = some (.ref f)) (bn : BN mg) (cg : CG K w mg) (f1 : FnF P w K mg base "is_rule" 6 d_is_rule) : FnF P w K mg base "is_policy" 7 d_is_policy := by
  refine fn_mk Fn hm c_is_policy (fun ds r ⟨i, _, h, _⟩ => by rw [h]; rfl) (fun _ _ _ _ _ _ us hl => match us, hl with | [_], _ => rfl) fun X F xd ds r ⟨p, wf, h, hr⟩ => ?_
  subst h hr
  have e0 : ∀ {pos}, E X [.dat (dP p), .un] (.Name "value" pos) (.tuple (p.map dR)) := fun {pos} => nm F 0
  refine when_ (t_or2 (t_not (t_val (e_isiTup F bn e0 rfl rfl rfl))) fun _ => t_gt (e_lenT F bn e0 rfl) (gi F cg.mrule)) (fun h => ?_) fun _ => ?_
  · have := wf.1
    simp at h
    omega
  · refine ret (d := .bool (p.all fun _ => true)) (allOf F bn p (fun _ => true) (lcA F 1 p dR (src_tup e0) (fun _ => .bool true) (fun Y FY b hb => ?_) (by have := wf.1; omega))) (by rw [all_true])
    exact ca1 FY f1 (nm FY 1) ⟨_, wf.2 b hb, rfl, rfl⟩
/-! check -/
def d_check : List PyData → PyData → Prop := fun ds r => ∃ ps : List (List Rl), (∀ p ∈ ps, wfPol p) ∧ ds = [.list (ps.map dP)] ∧ r = .none
theorem w_check {f : Addr} {fd : FuncData} (Fn : FnP K "check" s_check f fd) (hm : mg "check" = some (.ref f)) (f1 : FnF P w K mg base "is_policy" 7 d_is_policy) : FnF P w K mg base "check" 8 d_check := by
  refine fn_mk Fn hm c_check (fun ds r ⟨i, _, h, _⟩ => by rw [h]; rfl) (fun _ _ _ _ _ _ us hl => match us, hl with | [_], _ => rfl) fun X F xd ds r ⟨ps, wf, h, hr⟩ => ?_
  subst h hr
  refine forN F xd 1 ps dP (src_list (nm F 0)) (fun i Γ' => ∃ s, Γ' = [.dat (.list (ps.map dP)), s]) ⟨.un, rfl⟩ ?_ (fun Γ' _ => ss_nil rfl)
  rintro n p Γ' hd ⟨s, rfl⟩
  have hp := List.mem_of_getElem? hd
  refine when_ (v := false) (t_not (v := true) (t_val (ca1 F f1 (nm F 1) ⟨p, wf p hp, rfl, rfl⟩))) (fun h => by cases h) fun _ => ss_nil ⟨_, rfl⟩
end
end Z
set_option Elab.async false
set_option linter.all false
set_option maxRecDepth 100000
set_option maxHeartbeats 4000000
namespace Z
open PySem PySem.Spec PyProof.Rows L2 Evl
/-! ### counting -/
theorem nodup_sub {α : Type} [DecidableEq α] : ∀ {l L : List α}, l.Nodup → (∀ x ∈ l, x ∈ L) → l.length ≤ L.length
  | [], _, _, _ => Nat.zero_le _
  | a :: l, L, h, hs => by
    have h1 := List.nodup_cons.mp h
    have ha : a ∈ L := hs a (by simp)
    have := nodup_sub (L := L.erase a) h1.2 fun x hx => by
      have hne : x ≠ a := fun e => h1.1 (e ▸ hx)
      exact (List.mem_erase_of_ne hne).mpr (hs x (by simp [hx]))
    rw [List.length_erase_of_mem ha] at this
    have hp : 0 < L.length := List.length_pos_of_mem ha
    simp only [List.length_cons]
    omega
/-! ### opened -/
theorem opnB_iff {p pl : Bts} {j : Nat} : opnB p pl j = true ↔ ∃ i ∈ pl, i ≤ j ∧ ∀ m, i ≤ m → m < j → m < p.length → p[m]? = some 42 := by
  unfold opnB
  rw [List.any_eq_true]
  constructor
  · rintro ⟨i, hi, h⟩
    simp only [Bool.and_eq_true, decide_eq_true_eq, List.all_eq_true] at h
    refine ⟨i, hi, h.1, fun m h1 h2 h3 => ?_⟩
    have hm : p[m] ∈ (p.drop i).take (j - i) := by
      rw [List.mem_iff_getElem?]
      refine ⟨m - i, ?_⟩
      rw [List.getElem?_take, if_pos (by omega), List.getElem?_drop]
      rw [show i + (m - i) = m by omega]
      exact List.getElem?_eq_getElem h3
    have := h.2 _ hm
    rw [List.getElem?_eq_getElem h3]
    simpa using this
  · rintro ⟨i, hi, hij, h⟩
    refine ⟨i, hi, ?_⟩
    simp only [Bool.and_eq_true, decide_eq_true_eq, List.all_eq_true]
    refine ⟨hij, fun x hx => ?_⟩
    obtain ⟨n, hn⟩ := List.mem_iff_getElem?.mp hx
    rw [List.getElem?_take] at hn
    by_cases c : n < j - i
    · rw [if_pos c, List.getElem?_drop] at hn
      have hl := (List.getElem?_eq_some_iff.mp hn).1
      rw [h (i + n) (by omega) (by omega) hl] at hn
      simpa using (Option.some.inj hn).symm
    · rw [if_neg c] at hn
      cases hn
/-- the reached places, as the dict holds them -/
def OpSet (p pl : Bts) (ks : List Int) : Prop := ks.Nodup ∧ ∀ x, x ∈ ks ↔ ∃ j : Nat, x = j ∧ j ≤ p.length ∧ opnB p pl j = true
theorem OpSet.len {p pl : Bts} {ks : List Int} (h : OpSet p pl ks) : ks.length ≤ p.length + 1 := by
  have := nodup_sub (L := (List.range (p.length + 1)).map fun (n : Nat) => (n : Int)) h.1 fun x hx => by
    obtain ⟨j, rfl, hj, _⟩ := (h.2 x).mp hx
    exact List.mem_map.mpr ⟨j, List.mem_range.mpr (by omega), rfl⟩
  simpa using this
theorem range_pairwise (n : Nat) : (List.range n).Pairwise (· ≤ ·) := by
  have h : (List.range n).Pairwise (· < ·) := List.pairwise_lt_range
  exact h.imp fun h => Nat.le_of_lt h
theorem OpSet.sorted {p pl : Bts} {ks : List Int} (h : OpSet p pl ks) {l : List Int} (h1 : l.Perm ks) (h2 : l.Pairwise (· ≤ ·)) : l = (opn p pl).map fun (n : Nat) => (n : Int) := by
  refine sorted_one (h1.trans ?_) h2 ?_
  · refine (List.perm_ext_iff_of_nodup h.1 ?_).mpr fun x => ?_
    · show List.Pairwise _ _
      rw [List.pairwise_map]
      exact (List.Pairwise.filter _ List.nodup_range).imp fun h e => h (by omega)
    · rw [h.2 x]
      simp only [opn, List.mem_map, List.mem_filter, List.mem_range]
      constructor
      · rintro ⟨j, rfl, hj, hb⟩
        exact ⟨j, ⟨by omega, hb⟩, rfl⟩
      · rintro ⟨j, ⟨hj, hb⟩, rfl⟩
        exact ⟨j, rfl, by omega, hb⟩
  · rw [List.pairwise_map]
    refine (List.Pairwise.filter _ (range_pairwise _)).imp fun h => ?_
    omega
/-- while one walks from i to q -/
structure Walk (p pl : Bts) (i q : Nat) (ks : List Int) : Prop where
  nd : ks.Nodup
  iq : i ≤ q
  ql : q ≤ p.length
  run : ∀ m, i ≤ m → m < q → p[m]? = some 42
  mem : ∀ x, x ∈ ks ↔ ∃ j : Nat, x = j ∧ j ≤ p.length ∧ (opnB p pl j = true ∨ (i ≤ j ∧ j ≤ q))
theorem Walk.len {p pl : Bts} {i q : Nat} {ks : List Int} (h : Walk p pl i q ks) : ks.length ≤ p.length + 1 := by
  have := nodup_sub (L := (List.range (p.length + 1)).map fun (n : Nat) => (n : Int)) h.nd fun x hx => by
    obtain ⟨j, rfl, hj, _⟩ := (h.mem x).mp hx
    exact List.mem_map.mpr ⟨j, List.mem_range.mpr (by omega), rfl⟩
  simpa using this
theorem Walk.start {p pl : Bts} {i : Nat} {ks : List Int} (h : OpSet p pl ks) (hi : i ≤ p.length) : Walk p pl i i (putI ks i) := by
  refine ⟨putI_nodup h.1 _, Nat.le_refl _, hi, fun m h1 h2 => by omega, fun x => ?_⟩
  rw [putI_mem, h.2]
  constructor
  · rintro (⟨j, rfl, h1, h2⟩ | rfl)
    · exact ⟨j, rfl, h1, .inl h2⟩
    · exact ⟨i, rfl, hi, .inr ⟨Nat.le_refl _, Nat.le_refl _⟩⟩
  · rintro ⟨j, rfl, h1, h2 | h2⟩
    · exact .inl ⟨j, rfl, h1, h2⟩
    · right
      have : j = i := by omega
      rw [this]
theorem Walk.step {p pl : Bts} {i q : Nat} {ks : List Int} (h : Walk p pl i q ks) (hq : p[q]? = some 42) : Walk p pl i (q + 1) (putI ks ((q : Int) + 1)) := by
  have hlt := (List.getElem?_eq_some_iff.mp hq).1
  refine ⟨putI_nodup h.nd _, by have := h.iq; omega, hlt, fun m h1 h2 => ?_, fun x => ?_⟩
  · by_cases c : m = q
    · subst c; exact hq
    · exact h.run m h1 (by omega)
  · rw [putI_mem, h.mem]
    have := h.iq
    constructor
    · rintro (⟨j, rfl, h1, h2 | h2⟩ | rfl)
      · exact ⟨j, rfl, h1, .inl h2⟩
      · exact ⟨j, rfl, h1, .inr ⟨h2.1, by omega⟩⟩
      · exact ⟨q + 1, by simp, hlt, .inr ⟨by omega, Nat.le_refl _⟩⟩
    · rintro ⟨j, rfl, h1, h2 | h2⟩
      · exact .inl ⟨j, rfl, h1, .inl h2⟩
      · by_cases c : j = q + 1
        · subst c; right; simp
        · exact .inl ⟨j, rfl, h1, .inr ⟨h2.1, by omega⟩⟩
theorem Walk.stop {p pl : Bts} {i q n : Nat} {ks : List Int} (h : Walk p (pl.take n) i q ks) (hi : pl[n]? = some i) (hq : p[q]? ≠ some 42) : OpSet p (pl.take (n + 1)) ks := by
  refine ⟨h.nd, fun x => ?_⟩
  rw [h.mem]
  have tk : pl.take (n + 1) = pl.take n ++ [i] := by rw [List.take_add_one, hi]; rfl
  constructor
  · rintro ⟨j, rfl, h1, h2⟩
    refine ⟨j, rfl, h1, ?_⟩
    rw [tk, opnB_iff]
    rcases h2 with h2 | h2
    · obtain ⟨i', h3, h4⟩ := opnB_iff.mp h2
      exact ⟨i', by simp [h3], h4⟩
    · exact ⟨i, by simp, h2.1, fun m a b c => h.run m a (by omega)⟩
  · rintro ⟨j, rfl, h1, h2⟩
    refine ⟨j, rfl, h1, ?_⟩
    rw [tk, opnB_iff] at h2
    obtain ⟨i', h3, h4, h5⟩ := h2
    rcases List.mem_append.mp h3 with h3 | h3
    · exact .inl (opnB_iff.mpr ⟨i', h3, h4, h5⟩)
    · simp at h3
      subst h3
      right
      refine ⟨h4, ?_⟩
      by_cases c : j ≤ q
      · exact c
      · exact absurd (h5 q h.iq (by omega) (by omega)) hq
section
variable {P : Program} {w : World} {K : PySem.W.Frag} {mg : Str → Option Value} {base : Heap}
def wfP3 (p : Bts) : Prop := p.length ≤ 20 ∧ ∀ b ∈ p, b ≤ 255
def d_opened : List PyData → PyData → Prop := fun ds r => ∃ (p pl : Bts) (x : PyData), p.length ≤ 20 ∧ pl.length ≤ 1000 ∧ (∀ i ∈ pl, i ≤ p.length) ∧ (x = .tuple (pl.map dN) ∨ x = .list (pl.map dN)) ∧ ds = [dNs p, x] ∧ r = dNs (opn p pl)
theorem w_opened {f : Addr} {fd : FuncData} (Fn : FnP K "opened" s_opened f fd) (hm : mg "opened" = some (.ref f)) (bn : BN mg) (cg : CG K w mg) : FnF P w K mg base "opened" 1 d_opened := by
  refine fn_mk Fn hm c_opened (fun ds r ⟨p, pl, x, _, _, _, _, h, _⟩ => by rw [h]; rfl) (fun _ _ _ _ _ _ us hl => match us, hl with | [_, _], _ => rfl) fun X F xd ds r ⟨p, pl, x, hp, hpl, hpi, hx, h, hr⟩ => ?_
  subst h hr
  refine setI0 F xd 2 ?_
  refine forN F xd 3 pl dN (src_seq (nm F 1) hx) (fun n Γ' => ∃ ks s, Γ' = [.dat (dNs p), .dat x, .ob (oI ks), s] ∧ OpSet p (pl.take n) ks) ⟨[], .un, rfl, List.nodup_nil, fun x => by simp [opnB]⟩ ?_ ?_
  · rintro n i Γ' hi ⟨ks, s, rfl, hks⟩
    have hil := hpi i (List.mem_of_getElem? hi)
    have hl := hks.len
    refine setI F 2 (nm F 3) rfl (by omega) ?_
    refine ss_cons (s_while F (fun m Γ' => ∃ ks q, Γ' = [.dat (dNs p), .dat x, .ob (oI ks), .dat (dN q)] ∧ Walk p (pl.take n) i q ks ∧ m = p.length - q) (p.length - i) ⟨_, i, rfl, Walk.start hks hil, rfl⟩ ?_)
    rintro m Γ' ⟨ks, q, rfl, wk, rfl⟩
    have hl := wk.len
    have hql := wk.ql
    by_cases c : q < p.length
    · have hc : p[q]? = some p[q] := List.getElem?_eq_getElem c
      refine ⟨_, t_and2 (t_lt (nm F 3) (e_lenT F bn (ds := p.map dN) (nm F 0) rfl)) fun _ => t_eq (e_ixT (ds := p.map dN) (d := dN p[q]) (nm F 0) (nm F 3) (atI_nn (by rw [List.getElem?_map, hc]; rfl))) (gi F cg.star) (.int _ _), fun h => ?_, fun h => ?_⟩
      · have h42 : p[q]? = some 42 := by
          simp at h
          rw [hc]
          congr 1
          omega
        refine set_ F xd 3 (e_add (nm F 3) e_int) (setI F 2 (nm F 3) rfl (by omega) (ss_nil ⟨p.length - (q + 1), by omega, _, q + 1, rfl, wk.step h42, rfl⟩))
      · refine ss_nil ⟨ks, _, rfl, wk.stop hi fun e => ?_⟩
        rw [hc] at e
        have e' : p[q] = 42 := Option.some.inj e
        simp [c, e'] at h
    · refine ⟨_, t_and2 (v := false) (t_lt (nm F 3) (e_lenT F bn (ds := p.map dN) (nm F 0) rfl)) fun h => ?_, fun h => by simp at h, fun h => ?_⟩
      · exfalso
        simp at h
        omega
      · refine ss_nil ⟨ks, _, rfl, wk.stop hi fun e => ?_⟩
        have := (List.getElem?_eq_some_iff.mp e).1
        omega
  · rintro Γ' ⟨ks, s, rfl, hks⟩
    have hl := hks.len
    rw [List.take_length] at hks
    refine ret (e_tupleL F bn (e_sortedI F bn 2 rfl (by omega) fun l h1 h2 => hks.sorted h1 h2) rfl) ?_
    show _ = _
    unfold dNs
    rw [List.map_map]
    rfl
end
end Z
set_option Elab.async false
set_option linter.all false
set_option maxRecDepth 100000
set_option maxHeartbeats 4000000
namespace Z
open PySem PySem.Spec PyProof.Rows L2 Evl
theorem tgt_le {p pl : Bts} {b : Nat} (h : ∀ i ∈ pl, i ≤ p.length) : ∀ i ∈ tgt p pl b, i ≤ p.length := by
  intro i hi
  obtain ⟨j, hj, e⟩ := List.mem_filterMap.mp hi
  cases hc : p[j]? with
  | none => rw [hc] at e; cases e
  | some c =>
    have hl := (List.getElem?_eq_some_iff.mp hc).1
    rw [hc] at e
    simp only at e
    split at e
    · cases e; omega
    · split at e
      · cases e; omega
      · cases e
theorem opn_le {p pl : Bts} : ∀ i ∈ opn p pl, i ≤ p.length := by
  intro i hi
  have := (List.mem_filter.mp hi).1
  rw [List.mem_range] at this
  omega
theorem opn_len {p pl : Bts} : (opn p pl).length ≤ p.length + 1 := by
  have := List.length_filter_le (opnB p pl) (List.range (p.length + 1))
  rw [List.length_range] at this
  exact this
theorem tgt_len {p pl : Bts} {b : Nat} : (tgt p pl b).length ≤ pl.length := List.length_filterMap_le _ _
section
variable {P : Program} {w : World} {K : PySem.W.Frag} {mg : Str → Option Value} {base : Heap}
def d_moved : List PyData → PyData → Prop := fun ds r => ∃ (p pl : Bts) (b : Nat), p.length ≤ 20 ∧ pl.length ≤ 1000 ∧ (∀ i ∈ pl, i ≤ p.length) ∧ ds = [dNs p, dNs pl, dN b] ∧ r = dNs (mvd p pl b)
theorem w_moved {f : Addr} {fd : FuncData} (Fn : FnP K "moved" s_moved f fd) (hm : mg "moved" = some (.ref f)) (bn : BN mg) (cg : CG K w mg) (f1 : FnF P w K mg base "opened" 1 d_opened) : FnF P w K mg base "moved" 2 d_moved := by
  refine fn_mk Fn hm c_moved (fun ds r ⟨p, pl, x, _, _, _, h, _⟩ => by rw [h]; rfl) (fun _ _ _ _ _ _ us hl => match us, hl with | [_, _, _], _ => rfl) fun X F xd ds r ⟨p, pl, b, hp, hpl, hpi, h, hr⟩ => ?_
  subst h hr
  refine setF F xd 3 (ef_list as_nil (by decide)) ?_
  refine forN F xd 4 pl dN (src_tup (nm F 1)) (fun n Γ' => ∃ s, Γ' = [.dat (dNs p), .dat (dNs pl), .dat (dN b), .ob (oL X.K ((tgt p (pl.take n) b).map dN)), s]) ⟨.un, rfl⟩ ?_ ?_
  · rintro n i Γ' hi ⟨s, rfl⟩
    have hil := hpi i (List.mem_of_getElem? hi)
    have tk : tgt p (pl.take (n + 1)) b = tgt p (pl.take n) b ++ tgt p [i] b := by
      unfold tgt
      rw [← List.filterMap_append, List.take_add_one, hi]
      rfl
    have hlen : ((tgt p (pl.take n) b).map dN).length < 100000 := by
      have := tgt_len (p := p) (pl := pl.take n) (b := b)
      simp at this ⊢
      omega
    by_cases c : i < p.length
    · have hc : p[i]? = some p[i] := List.getElem?_eq_getElem c
      have ti : ∀ {e1 e2 pos ctx}, E X ctx e1 (.tuple (p.map dN)) → E X ctx e2 (dN i) → PlainIx e2 → E X ctx (.Subscript e1 e2 pos) (dN p[i]) := fun {e1 e2 pos ctx} h1 h2 h3 => e_ixT (ds := p.map dN) (d := dN p[i]) h1 h2 (atI_nn (by rw [List.getElem?_map, hc]; rfl)) h3
      refine if_ (t_and2 (t_lt (nm F 4) (e_lenT F bn (ds := p.map dN) (nm F 0) rfl)) fun _ => t_eq (ti (nm F 0) (nm F 4) (fun _ _ => rfl)) (gi F cg.star) (.int _ _)) (fun h => ?_) (fun h => ?_)
      · have h42 : p[i] = 42 := by
          simp at h
          omega
        refine app F 3 (nm F 4) (ss_nil (ss_nil ⟨.dat (dN i), ?_⟩)) hlen
        have e1 : tgt p [i] b = [i] := by simp [tgt, hc, h42]
        rw [tk, e1, List.map_append]
        rfl
      · have h42 : ¬ p[i] = 42 := by
          simp at h
          intro e
          have := h c
          omega
        refine when_ (t_and2 (t_lt (nm F 4) (e_lenT F bn (ds := p.map dN) (nm F 0) rfl)) fun _ => t_eq (ti (nm F 0) (nm F 4) (fun _ _ => rfl)) (nm F 2) (.int _ _)) (fun h => ?_) (fun h => ?_)
        · have hb : p[i] = b := by
            simp at h
            omega
          refine app F 3 (e_add (nm F 4) e_int) (ss_nil (ss_nil (ss_nil ⟨.dat (dN i), ?_⟩))) hlen
          have e1 : tgt p [i] b = [i + 1] := by
            subst hb
            simp [tgt, hc, h42]
          rw [tk, e1, List.map_append]
          rfl
        · have hb : ¬ p[i] = b := by
            simp at h
            intro e
            have := h c
            omega
          refine ss_nil (ss_nil ⟨.dat (dN i), ?_⟩)
          have e1 : tgt p [i] b = [] := by simp [tgt, hc, h42, hb]
          rw [tk, e1, List.append_nil]
          rfl
    · have hn : p[i]? = none := List.getElem?_eq_none (by omega)
      refine if_ (t_and2 (v := false) (t_lt (nm F 4) (e_lenT F bn (ds := p.map dN) (nm F 0) rfl)) fun h => ?_) (fun h => by simp at h) (fun _ => ?_)
      · exfalso
        simp at h
        omega
      · refine when_ (t_and2 (v := false) (t_lt (nm F 4) (e_lenT F bn (ds := p.map dN) (nm F 0) rfl)) fun h => ?_) (fun h => by simp at h) (fun _ => ?_)
        · exfalso
          simp at h
          omega
        · refine ss_nil (ss_nil ⟨.dat (dN i), ?_⟩)
          have e1 : tgt p [i] b = [] := by simp [tgt, hn]
          rw [tk, e1, List.append_nil]
          rfl
  · rintro Γ' ⟨s, rfl⟩
    rw [List.take_length]
    refine ss_freeze (i := 3) rfl (ret (ca2 F f1 (nm F 0) (nm F 3) ⟨p, tgt p pl b, _, hp, ?_, tgt_le hpi, .inr rfl, rfl, rfl⟩) rfl)
    have := tgt_len (p := p) (pl := pl) (b := b)
    omega
def d_matches : List PyData → PyData → Prop := fun ds r => ∃ (p n : Bts), p.length ≤ 20 ∧ ds = [dNs p, dNs n] ∧ r = .bool (mt p n)
theorem inV_nats (x : Nat) (ss : Bts) : inV (.int x) (ss.map fun (n : Nat) => V.int n) = decide (x ∈ ss) := by
  induction ss with
  | nil => rfl
  | cons s ss ih =>
    show (eqV (.int s) (.int x) || inV (.int x) (ss.map fun (n : Nat) => V.int n)) = _
    rw [ih]
    have : eqV (.int s) (.int x) = decide (s = x) := by
      by_cases h : s = x
      · subst h; simp [eqV]
      · have h' : ¬ (s : Int) = x := by omega
        simp [eqV, h, h']
    rw [this]
    by_cases h : s = x
    · subst h; simp
    · have h' : ¬ x = s := fun e => h e.symm
      simp [h, h']
theorem flat_nats (ss : Bts) : (ss.map dN).map flatD = (ss.map fun (n : Nat) => V.int n).map some := by simp [flatD, Function.comp_def]
theorem w_matches {f : Addr} {fd : FuncData} (Fn : FnP K "matches" s_matches f fd) (hm : mg "matches" = some (.ref f)) (bn : BN mg) (f1 : FnF P w K mg base "opened" 1 d_opened) (f2 : FnF P w K mg base "moved" 2 d_moved) : FnF P w K mg base "matches" 3 d_matches := by
  refine fn_mk Fn hm c_matches (fun ds r ⟨p, pl, _, h, _⟩ => by rw [h]; rfl) (fun _ _ _ _ _ _ us hl => match us, hl with | [_, _], _ => rfl) fun X F xd ds r ⟨p, n, hp, h, hr⟩ => ?_
  subst h hr
  have hst : ∀ m : Bts, (∀ i ∈ m.foldl (mvd p) (opn p [0]), i ≤ p.length) ∧ (m.foldl (mvd p) (opn p [0])).length ≤ p.length + 1 := by
    have gen : ∀ (m st : Bts), ((∀ i ∈ st, i ≤ p.length) ∧ st.length ≤ p.length + 1) → (∀ i ∈ m.foldl (mvd p) st, i ≤ p.length) ∧ (m.foldl (mvd p) st).length ≤ p.length + 1 := by
      intro m
      induction m with
      | nil => exact fun st h => h
      | cons b m ih => exact fun st h => ih _ ⟨opn_le, opn_len⟩
    exact fun m => gen m _ ⟨opn_le, opn_len⟩
  refine set_ F xd 2 (ca2 F f1 (nm F 0) (tu1 e_int) ⟨p, [0], _, hp, by decide, by simp, .inl rfl, rfl, rfl⟩) ?_
  refine forN F xd 3 n dN (src_tup (nm F 1)) (fun k Γ' => ∃ s, Γ' = [.dat (dNs p), .dat (dNs n), .dat (dNs ((n.take k).foldl (mvd p) (opn p [0]))), s]) ⟨.un, rfl⟩ ?_ ?_
  · rintro k b Γ' hi ⟨s, rfl⟩
    · obtain ⟨h1, h2⟩ := hst (n.take k)
      refine set_ F xd 2 (ca3 F f2 (nm F 0) (nm F 2) (nm F 3) ⟨p, _, b, hp, by omega, h1, rfl, rfl⟩) (ss_nil ⟨.dat (dN b), ?_⟩)
      rw [List.take_add_one, hi, Option.toList_some, List.foldl_append]
      rfl
  · rintro Γ' ⟨s, rfl⟩
    rw [List.take_length]
    refine ret (e_in (u := .int p.length) (e_lenT F bn (ds := p.map dN) (nm F 0) rfl) (nm F 2) (by simp [flatD]) rfl (flat_nats _)) ?_
    rw [inV_nats]
    rfl
def Sg.hd : Sg → Str | .lt => "<" | .le => "<" | .eq => "=" | .ge => ">" | .gt => ">"
def d_stands : List PyData → PyData → Prop := fun ds r => ∃ (a b : Int) (s : Sg), ds = [.int a, .str s.str, .int b] ∧ r = .bool (stM a s b)
theorem ch0 (s : Str) {c : Nat} {i : Int} {r : List Nat} (h : s.cps.toList = c :: r) : atI s.cps.toList 0 = some c := by rw [h]; exact at0
theorem w_stands {f : Addr} {fd : FuncData} (Fn : FnP K "stands" s_stands f fd) (hm : mg "stands" = some (.ref f)) : FnF P w K mg base "stands" 1 d_stands := by
  refine fn_mk Fn hm c_stands (fun ds r ⟨p, pl, _, h, _⟩ => by rw [h]; rfl) (fun _ _ _ _ _ _ us hl => match us, hl with | [_, _, _], _ => rfl) fun X F xd ds r ⟨a, b, s, h, hr⟩ => ?_
  subst h hr
  have hc : ∃ c, atI s.str.cps.toList 0 = some c ∧ s.str.length ≤ 100000 ∧ (⟨#[c]⟩ : Str) = s.hd := by
    cases s
    · exact ⟨60, by decide +kernel, by decide +kernel, by decide +kernel⟩
    · exact ⟨60, by decide +kernel, by decide +kernel, by decide +kernel⟩
    · exact ⟨61, by decide +kernel, by decide +kernel, by decide +kernel⟩
    · exact ⟨62, by decide +kernel, by decide +kernel, by decide +kernel⟩
    · exact ⟨62, by decide +kernel, by decide +kernel, by decide +kernel⟩
  obtain ⟨c, hc1, hc2, hc3⟩ := hc
  have e1 : ∀ {pos p2 p3 j}, E X [.dat (.int a), .dat (.str s.str), .dat (.int b)] (.Subscript (.Name "sign" pos) (.Constant (.int 0) j p2) p3) (.str ⟨#[c]⟩) := fun {pos p2 p3 j} =>
    e_of (pe_ix ix_str peS peS (fun _ _ => rfl)) (evd_op (x := .str s.str) (y := .int 0) (nm F 1) e_int fun G H v u e h1 h2 Q hQ => by
      cases h1
      cases h2
      exact ⟨s.str, 0, c, rfl, rfl, sz_of hc2, hc1, hQ _ G H (Gr.refl e) (.str _)⟩)
  have c1 : ¬ ("<" : Str) = "=" := by decide +kernel
  have c2 : ¬ ("<=" : Str) = "=" := by decide +kernel
  have c3 : ¬ (">=" : Str) = "=" := by decide +kernel
  have c4 : ¬ (">" : Str) = "=" := by decide +kernel
  have c5 : ¬ (">" : Str) = "<" := by decide +kernel
  have c6 : ¬ ("<" : Str) = "<=" := by decide +kernel
  have c7 : ¬ (">" : Str) = ">=" := by decide +kernel
  refine when_ (t_eq (nm F 1) e_str (.str _ _)) (fun h => ?_) (fun h => ?_)
  · refine ret (e_eq (nm F 0) (nm F 2) (.int _ _)) ?_
    cases s <;> simp [Sg.str, c1, c2, c3, c4] at h <;> rfl
  · rw [hc3] at e1
    refine when_ (t_eq e1 e_str (.str _ _)) (fun h' => ?_) (fun h' => ?_)
    · refine ret (e_or2 (e_lt (nm F 0) (nm F 2)) fun _ => e_and2 (e_eq (nm F 1) e_str (.str _ _)) fun _ => e_eq (nm F 0) (nm F 2) (.int _ _)) ?_
      cases s <;> simp [Sg.str, Sg.hd, c5] at h' <;> simp [Sg.str, stM, c6] at h ⊢
    · refine ret (e_or2 (e_gt (nm F 0) (nm F 2)) fun _ => e_and2 (e_eq (nm F 1) e_str (.str _ _)) fun _ => e_eq (nm F 0) (nm F 2) (.int _ _)) ?_
      cases s <;> simp [Sg.str, Sg.hd, stM, c7] at h h' ⊢
end
end Z
set_option Elab.async false
set_option linter.all false
set_option maxRecDepth 100000
set_option maxHeartbeats 4000000
namespace Z
open PySem PySem.Spec PyProof.Rows L2 Evl
theorem kd_inj : ∀ a b : Kd, a.str = b.str → a = b := by intro a b; cases a <;> cases b <;> first | exact fun _ => rfl | (intro h; exact absurd h (by decide +kernel))
theorem ac_inj : ∀ a b : Ac, a.str = b.str → a = b := by intro a b; cases a <;> cases b <;> first | exact fun _ => rfl | (intro h; exact absurd h (by decide +kernel))
theorem vd_inj : ∀ a b : Vd, a.str = b.str → a = b := by intro a b; cases a <;> cases b <;> first | exact fun _ => rfl | (intro h; exact absurd h (by decide +kernel))
theorem kd_dec (a b : Kd) : decide (a.str = b.str) = decide (a = b) := by
  by_cases h : a = b
  · subst h; simp
  · have : ¬ a.str = b.str := fun e => h (kd_inj _ _ e)
    simp [h, this]
theorem vd_dec (a b : Vd) : decide (a.str = b.str) = decide (a = b) := by
  by_cases h : a = b
  · subst h; simp
  · have : ¬ a.str = b.str := fun e => h (vd_inj _ _ e)
    simp [h, this]
theorem kd_in (k : Kd) (l : List Kd) : decide (k.str ∈ l.map Kd.str) = decide (k ∈ l) := by
  by_cases h : k ∈ l
  · have : k.str ∈ l.map Kd.str := List.mem_map.mpr ⟨k, h, rfl⟩
    simp only [h, this, decide_true]
  · have : ¬ k.str ∈ l.map Kd.str := fun m => by
      obtain ⟨a, h1, h2⟩ := List.mem_map.mp m
      exact h (kd_inj _ _ h2 ▸ h1)
    simp only [h, this, decide_false]
theorem ac_in (k : Ac) (l : List Ac) : decide (k.str ∈ l.map Ac.str) = decide (k ∈ l) := by
  by_cases h : k ∈ l
  · have : k.str ∈ l.map Ac.str := List.mem_map.mpr ⟨k, h, rfl⟩
    simp only [h, this, decide_true]
  · have : ¬ k.str ∈ l.map Ac.str := fun m => by
      obtain ⟨a, h1, h2⟩ := List.mem_map.mp m
      exact h (ac_inj _ _ h2 ▸ h1)
    simp only [h, this, decide_false]
theorem dKs_eq (l : List Kd) : dKs l = .tuple ((l.map Kd.str).map .str) := by simp [dKs, Function.comp_def]
theorem dAs_eq (l : List Ac) : dAs l = .tuple ((l.map Ac.str).map .str) := by simp [dAs, Function.comp_def]
section
variable {P : Program} {w : World} {K : PySem.W.Frag} {mg : Str → Option Value} {base : Heap}
def d_number_of : List PyData → PyData → Prop := fun ds r => ∃ (g : NF) (f : Fx), ds = [.str g.str, dF f] ∧ r = .int (f.num g)
theorem w_number_of {f : Addr} {fd : FuncData} (Fn : FnP K "number_of" s_number_of f fd) (hm : mg "number_of" = some (.ref f)) (bn : BN mg) : FnF P w K mg base "number_of" 1 d_number_of := by
  refine fn_mk Fn hm c_number_of (fun ds r ⟨p, pl, h, _⟩ => by rw [h]; rfl) (fun _ _ _ _ _ _ us hl => match us, hl with | [_, _], _ => rfl) fun X F xd ds r ⟨g, f, h, hr⟩ => ?_
  subst h hr
  have e0 : ∀ {pos}, E X [.dat (.str g.str), .dat (dF f)] (.Name "facts" pos) (.tuple [dNs f.name, .int f.size, .str f.kind.str, dKs f.kinds, .int f.pages, dAs f.acts, .int f.depth]) := fun {pos} => nm F 1
  refine when_ (t_eq (nm F 0) e_str (.str _ _)) (fun h => ret (e_ixT e0 e_int rfl) ?_) (fun h1 => ?_)
  · cases g <;> first | rfl | (exfalso; revert h; decide +kernel)
  refine when_ (t_eq (nm F 0) e_str (.str _ _)) (fun h => ret (e_ixT e0 e_int rfl) ?_) (fun h2 => ?_)
  · cases g <;> first | rfl | (exfalso; revert h; decide +kernel)
  refine when_ (t_eq (nm F 0) e_str (.str _ _)) (fun h => ret (e_lenT F bn (ds := f.acts.map fun k => .str k.str) (e_ixT e0 e_int rfl) rfl) ?_) (fun h3 => ret (e_ixT e0 e_int rfl) ?_)
  · rw [List.length_map]
    cases g <;> first | rfl | (exfalso; revert h; decide +kernel)
  · cases g
    · exfalso; revert h1; decide +kernel
    · exfalso; revert h2; decide +kernel
    · exfalso; revert h3; decide +kernel
    · rfl
def d_holds : List PyData → PyData → Prop := fun ds r => ∃ (t : Tm) (f : Fx), t.body.wf ∧ ds = [dT t, dF f] ∧ r = .bool (hM t f)
theorem bne_dec (a b : Bool) : (!decide (a = b)) = (a != b) := by cases a <;> cases b <;> rfl
theorem w_holds {f : Addr} {fd : FuncData} (Fn : FnP K "holds" s_holds f fd) (hm : mg "holds" = some (.ref f)) (bn : BN mg) (cg : CG K w mg) (f1 : FnF P w K mg base "stands" 1 d_stands) (f2 : FnF P w K mg base "number_of" 1 d_number_of) (f3 : FnF P w K mg base "matches" 3 d_matches) : FnF P w K mg base "holds" 4 d_holds := by
  refine fn_mk Fn hm c_holds (fun ds r ⟨p, pl, _, h, _⟩ => by rw [h]; rfl) (fun _ _ _ _ _ _ us hl => match us, hl with | [_, _], _ => rfl) fun X F xd ds r ⟨t, f, wf, h, hr⟩ => ?_
  subst h hr
  refine set2 F xd 2 3 (d1 := .bool t.neg) (d2 := dB t.body) (nm F 0) ?_
  have fin : ∀ {st rest : List Stmt} {v : Bool} {κ : Kt}, v = hb t.body f → True := fun _ => trivial
  obtain ⟨ng, b⟩ := t
  have ef : ∀ {pos s}, E X [.dat (dT ⟨ng, b⟩), .dat (dF f), .dat (.bool ng), .dat (dB b), s] (.Name "facts" pos) (.tuple [dNs f.name, .int f.size, .str f.kind.str, dKs f.kinds, .int f.pages, dAs f.acts, .int f.depth]) := fun {pos s} => nm F 1
  obtain ⟨x, rest, hb'⟩ : ∃ x rest, dB b = .tuple (.str b.word :: x :: rest) := by cases b <;> exact ⟨_, _, rfl⟩
  have eb : ∀ {pos s}, E X [.dat (dT ⟨ng, b⟩), .dat (dF f), .dat (.bool ng), .dat (dB b), s] (.Name "body" pos) (.tuple (.str b.word :: x :: rest)) := fun {pos s} => hb' ▸ nm F 3
  have e1 : ∀ {pos pos' pos'' j s}, E X [.dat (dT ⟨ng, b⟩), .dat (dF f), .dat (.bool ng), .dat (dB b), s] (.Subscript (.Name "body" pos) (.Constant (.int 0) j pos') pos'') (.str b.word) := fun {_ _ _ _ _} => e_ixT eb e_int at0
  have wf : b.wf := wf
  cases b with
  | num g s n =>
    have eb' : ∀ {pos s'}, E X [.dat (dT ⟨ng, .num g s n⟩), .dat (dF f), .dat (.bool ng), .dat (dB (.num g s n)), s'] (.Name "body" pos) (.tuple [.str g.str, .str s.str, .int n]) := fun {_ _} => nm F 3
    refine if_ (v := true) (t_inKD F cg.most e1 (.inl ⟨rfl, mo_mem g⟩)) (fun _ => ?_) (fun h => by cases h)
    refine set_ F xd 4 (ca3 F f1 (ca2 F f2 e1 (nm F 1) ⟨g, f, rfl, rfl⟩) (e_ixT eb' e_int rfl) (e_ixT eb' e_int rfl) ⟨_, _, _, rfl, rfl⟩) (ss_nil (ret (e_ne (nm F 4) (nm F 2) (.bool _ _)) ?_))
    rw [bne_dec]
    rfl
  | isk kk =>
    have eb' : ∀ {pos s'}, E X [.dat (dT ⟨ng, .isk kk⟩), .dat (dF f), .dat (.bool ng), .dat (dB (.isk kk)), s'] (.Name "body" pos) (.tuple [.str "is", .str kk.str]) := fun {_ _} => nm F 3
    refine if_ (v := false) (t_inKD F cg.most e1 (.inr ⟨rfl, by show ("is" : Str) ∈ _; decide +kernel⟩)) (fun h => by cases h) (fun _ => ?_)
    refine if_ (t_eq e1 e_str (.str _ _)) (fun _ => ?_) (fun h => by simp [Bd.word] at h)
    refine set_ F xd 4 (e_eq (e_ixT ef e_int rfl) (e_ixT eb' e_int rfl) (.str _ _)) (ss_nil (ss_nil (ret (e_ne (nm F 4) (nm F 2) (.bool _ _)) ?_)))
    rw [bne_dec, kd_dec]
    rfl
  | could kk =>
    have eb' : ∀ {pos s'}, E X [.dat (dT ⟨ng, .could kk⟩), .dat (dF f), .dat (.bool ng), .dat (dB (.could kk)), s'] (.Name "body" pos) (.tuple [.str "could", .str kk.str]) := fun {_ _} => nm F 3
    refine if_ (v := false) (t_inKD F cg.most e1 (.inr ⟨rfl, by show ("could" : Str) ∈ _; decide +kernel⟩)) (fun h => by cases h) (fun _ => ?_)
    refine if_ (t_eq e1 e_str (.str _ _)) (fun h => absurd (of_decide_eq_true h) (by show ¬ ("could" : Str) = "is"; decide +kernel)) (fun _ => ?_)
    refine if_ (t_eq e1 e_str (.str _ _)) (fun _ => ?_) (fun h => by simp [Bd.word] at h)
    rw [dKs_eq] at ef
    refine set_ F xd 4 (e_in (e_ixT eb' e_int rfl) (e_ixT ef e_int rfl) rfl rfl (flat_strs' _)) (ss_nil (ss_nil (ss_nil (ret (e_ne (nm F 4) (nm F 2) (.bool _ _)) ?_))))
    rw [bne_dec, inV_strs, kd_in]
    rfl
  | act a =>
    have eb' : ∀ {pos s'}, E X [.dat (dT ⟨ng, .act a⟩), .dat (dF f), .dat (.bool ng), .dat (dB (.act a)), s'] (.Name "body" pos) (.tuple [.str "act", .str a.str]) := fun {_ _} => nm F 3
    refine if_ (v := false) (t_inKD F cg.most e1 (.inr ⟨rfl, by show ("act" : Str) ∈ _; decide +kernel⟩)) (fun h => by cases h) (fun _ => ?_)
    refine if_ (t_eq e1 e_str (.str _ _)) (fun h => absurd (of_decide_eq_true h) (by show ¬ ("act" : Str) = "is"; decide +kernel)) (fun _ => ?_)
    refine if_ (t_eq e1 e_str (.str _ _)) (fun h => absurd (of_decide_eq_true h) (by show ¬ ("act" : Str) = "could"; decide +kernel)) (fun _ => ?_)
    refine if_ (t_eq e1 e_str (.str _ _)) (fun _ => ?_) (fun h => by simp [Bd.word] at h)
    rw [dAs_eq] at ef
    refine set_ F xd 4 (e_in (e_ixT eb' e_int rfl) (e_ixT ef e_int rfl) rfl rfl (flat_strs' _)) (ss_nil (ss_nil (ss_nil (ss_nil (ret (e_ne (nm F 4) (nm F 2) (.bool _ _)) ?_)))))
    rw [bne_dec, inV_strs, ac_in]
    rfl
  | nam p =>
    have eb' : ∀ {pos s'}, E X [.dat (dT ⟨ng, .nam p⟩), .dat (dF f), .dat (.bool ng), .dat (dB (.nam p)), s'] (.Name "body" pos) (.tuple [.str "name", dNs p]) := fun {_ _} => nm F 3
    refine if_ (v := false) (t_inKD F cg.most e1 (.inr ⟨rfl, by show ("name" : Str) ∈ _; decide +kernel⟩)) (fun h => by cases h) (fun _ => ?_)
    refine if_ (t_eq e1 e_str (.str _ _)) (fun h => absurd (of_decide_eq_true h) (by show ¬ ("name" : Str) = "is"; decide +kernel)) (fun _ => ?_)
    refine if_ (t_eq e1 e_str (.str _ _)) (fun h => absurd (of_decide_eq_true h) (by show ¬ ("name" : Str) = "could"; decide +kernel)) (fun _ => ?_)
    refine if_ (t_eq e1 e_str (.str _ _)) (fun h => absurd (of_decide_eq_true h) (by show ¬ ("name" : Str) = "act"; decide +kernel)) (fun _ => ?_)
    refine set_ F xd 4 (ca2 F f3 (e_ixT eb' e_int rfl) (e_ixT ef e_int rfl) ⟨p, f.name, wf.1, rfl, rfl⟩) (ss_nil (ss_nil (ss_nil (ss_nil (ret (e_ne (nm F 4) (nm F 2) (.bool _ _)) ?_)))))
    rw [bne_dec]
    rfl
end
end Z
set_option Elab.async false
set_option linter.all false
set_option maxRecDepth 100000
set_option maxHeartbeats 2000000
/-! One's own list read; data that == tells apart. -/
namespace Z
open PySem PySem.Spec PyProof.Rows L2 Evl
section
variable {X : Cx} {K : PySem.W.Frag} {Γ : List Sl} {e : Expr} {es : List PyData} {d : PyData} {v : Bool}
theorem At.borrow {G0 H0 G H : Hp} {σ : L2.St} (hA : At K G0 H0 Γ σ G H) {i : Nat} (hi : Γ[i]? = some (.ob (oL K es))) :
    ∃ G1, At K G0 H0 (Γ.set i (.dat (.list es))) σ G1 H ∧ ∀ G' H', Gr G1 H G' H' → ∃ G2, Gr G H G2 H' := by
  obtain ⟨l, u, e, h0, hg, hh, vs, rfl, hd⟩ := hA.sl i _ hi
  have ex : Ex G (upd G l (.lst vs)) := Ex.new hg
  refine ⟨upd G l (.lst vs), ⟨gr_freeze hA.gr h0 hg hh, by simp [hA.len], fun j s hj => ?_, fun j k o1 o2 ne hj hk => ?_⟩, fun G' H' g => ⟨hide G' l, fun a u ha => ?_, fun a u ha => ?_, g.hh, fun a u ha ga => ?_⟩⟩
  · by_cases q : i = j
    · subst q
      have hlt : i < Γ.length := by simpa using (List.getElem?_eq_some_iff.mp hj).1
      rw [List.getElem?_set_self hlt] at hj
      cases hj
      exact ⟨_, e, .lst upd_same (dp_exs ex _ _ hd)⟩
    · rw [List.getElem?_set_ne q] at hj
      have z := hA.sl j s hj
      cases s with
      | un => trivial
      | dat d' =>
        obtain ⟨v, e1, h1⟩ := z
        exact ⟨v, e1, dp_ex ex _ _ h1⟩
      | ob o1 =>
        obtain ⟨l1, u1, e1, h01, hg1, hh1, p1⟩ := z
        have nl : l1 ≠ l := fun z => hA.ap i j _ _ q hi hj l e (by rw [e1, z])
        exact ⟨l1, u1, e1, h01, by rw [upd_ne nl]; exact hg1, hh1, o1.mono _ _ _ _ ex p1⟩
  · have f : ∀ {m : Nat} {u : Ob}, (Γ.set i (.dat (.list es)))[m]? = some (.ob u) → Γ[m]? = some (.ob u) := fun {m u} q => by
      by_cases e : i = m
      · subst e
        have hi : i < Γ.length := by simpa using (List.getElem?_eq_some_iff.mp q).1
        rw [List.getElem?_set_self hi] at q
        cases q
      · rw [List.getElem?_set_ne e] at q
        exact q
    exact hA.ap j k o1 o2 ne (f hj) (f hk)
  · unfold hide
    rw [if_neg (ne_of_none ha hg)]
    exact g.gg a u (ex a u ha)
  · unfold hide at ha
    by_cases q : a = l
    · rw [if_pos q] at ha
      cases ha
    · rw [if_neg q] at ha
      exact g.gh a u ha
  · unfold hide
    by_cases q : a = l
    · rw [if_pos q]
    · rw [if_neg q]
      exact g.fr a u ha (by rw [upd_ne q]; exact ga)
theorem t_borrow (i : Nat) (hi : Γ[i]? = some (.ob (oL X.K es))) (h : T X (Γ.set i (.dat (.list es))) e v) : T X Γ e v := fun G0 H0 σ G H hA Q hQ => by
  obtain ⟨G1, a1, k⟩ := hA.borrow hi
  exact h G0 H0 σ G1 H a1 Q fun G' H' g => by
    obtain ⟨G2, g2⟩ := k G' H' g
    exact hQ G2 H' g2
theorem e_borrow (i : Nat) (hi : Γ[i]? = some (.ob (oL X.K es))) (h : E X (Γ.set i (.dat (.list es))) e d) (st : still d = true := by rfl) : E X Γ e d := evd_borrow hi (fun G _ u h => h) h st
end
/-! ### == of texts, of ints, of bools, of patterns -/
theorem eqvAll_nats : ∀ a b : Bts, PyData.eqvAll (a.map dN) (b.map dN) = decide (a = b)
  | [], [] => by simp [PyData.eqvAll]
  | [], _ :: _ => by simp [PyData.eqvAll]
  | _ :: _, [] => by simp [PyData.eqvAll]
  | x :: a, y :: b => by
    simp only [List.map_cons, PyData.eqvAll, PyData.eqv]
    rw [eqvAll_nats a b]
    by_cases h : x = y
    · subst h; simp
    · have h' : ¬ (x : Int) = y := by omega
      simp [h, h']
theorem eqv_nats (a b : Bts) : PyData.eqv (dNs a) (dNs b) = decide (a = b) := by
  simp only [dNs, PyData.eqv]
  exact eqvAll_nats a b
theorem any_nats (p : Bts) (l : List Bts) : ((l.map dNs).any fun z => PyData.eqv z (dNs p)) = decide (p ∈ l) := by
  rw [List.any_map]
  induction l with
  | nil => rfl
  | cons a r ih =>
    rw [List.any_cons, ih]
    simp only [Function.comp, eqv_nats]
    by_cases h : a = p
    · subst h; simp
    · have h' : ¬ p = a := fun e => h e.symm
      simp [h, h']
theorem noscr_nats (p : Bts) : noscr (dNs p) = true := by
  simp only [dNs, noscr]
  induction p with
  | nil => rfl
  | cons a r ih => simp [noscrs, noscr, ih]
theorem noscrs_map {α : Type} {f : α → PyData} (h : ∀ a, noscr (f a) = true) : ∀ l : List α, noscrs (l.map f) = true
  | [] => rfl
  | a :: r => by simp [noscrs, h a, noscrs_map h r]
theorem stills_map {α : Type} {f : α → PyData} : ∀ l : List α, (∀ a ∈ l, still (f a) = true) → stills (l.map f) = true
  | [], _ => rfl
  | a :: r, h => by simp [stills, h a, stills_map r fun b hb => h b (by simp [hb])]
theorem still_nats (p : Bts) : still (dNs p) = true := by
  simp only [dNs, still]
  exact stills_map p fun _ _ => rfl
/-- flat enough -/
def shp (n : Nat) (d : PyData) : Prop := d.canLay0 = true ∧ d.depth ≤ n
theorem shp_shaped {n : Nat} {d : PyData} (h : shp n d) (hn : n ≤ 64 := by decide) : SeqAt.shaped d = true := by
  unfold SeqAt.shaped
  rw [h.1, decide_eq_true (Nat.le_trans h.2 hn)]
  rfl
theorem shp_all {α : Type} {f : α → PyData} {n : Nat} : ∀ l : List α, (∀ a ∈ l, shp n (f a)) → PyData.canLayAll0 (l.map f) = true ∧ PyData.depthAll (l.map f) ≤ n
  | [], _ => by simp [PyData.canLayAll0, PyData.depthAll]
  | a :: r, h => by
    obtain ⟨h1, h2⟩ := h a (by simp)
    obtain ⟨h3, h4⟩ := shp_all r fun b hb => h b (by simp [hb])
    simp only [List.map_cons, PyData.canLayAll0, PyData.depthAll, h1, h3, Bool.and_self, true_and]
    omega
theorem shp_tuple {α : Type} {f : α → PyData} {n : Nat} (l : List α) (h : ∀ a ∈ l, shp n (f a)) : shp (n + 1) (.tuple (l.map f)) := by
  obtain ⟨h1, h2⟩ := shp_all l h
  refine ⟨by simpa only [PyData.canLay0] using h1, ?_⟩
  simp only [PyData.depth]
  omega
theorem shp_list {α : Type} {f : α → PyData} {n : Nat} (l : List α) (h : ∀ a ∈ l, shp n (f a)) : shp (n + 1) (.list (l.map f)) := by
  obtain ⟨h1, h2⟩ := shp_all l h
  refine ⟨by simpa only [PyData.canLay0] using h1, ?_⟩
  simp only [PyData.depth]
  omega
theorem shp_int (i : Int) : shp 0 (.int i) := ⟨by simp only [PyData.canLay0], by simp [PyData.depth]⟩
theorem shp_str (i : Str) (h : PyData.strOk i = true) : shp 0 (.str i) := ⟨by simp only [PyData.canLay0, h], by simp [PyData.depth]⟩
theorem shp_kd (k : Kd) : shp 0 (.str k.str) := shp_str _ (by cases k <;> decide +kernel)
theorem shp_ac (k : Ac) : shp 0 (.str k.str) := shp_str _ (by cases k <;> decide +kernel)
theorem shp_bool (i : Bool) : shp 0 (.bool i) := ⟨by simp only [PyData.canLay0], by simp [PyData.depth]⟩
theorem shp_nats (p : Bts) : shp 1 (dNs p) := shp_tuple p fun _ _ => shp_int _
theorem shp_natss (p : List Bts) : shp 2 (.list (p.map dNs)) := shp_list p fun _ _ => shp_nats _
theorem shp_mono {m n : Nat} {d : PyData} (h : shp m d) (hn : m ≤ n) : shp n d := ⟨h.1, Nat.le_trans h.2 hn⟩
end Z
set_option Elab.async false
set_option linter.all false
set_option maxRecDepth 100000
set_option maxHeartbeats 4000000
namespace Z
open PySem PySem.Spec PyProof.Rows L2 Evl
/-! ### the patterns -/
def addP (acc : List Bts) (t : Tm) : List Bts := match t.body with
  | .nam p => if p ∈ acc then acc else acc ++ [p]
  | _ => acc
def patsR (acc : List Bts) (r : Rl) : List Bts := r.ts.foldl addP acc
def patsP (acc : List Bts) (p : List Rl) : List Bts := p.foldl patsR acc
def patsM (ps : List (List Rl)) : List Bts := ps.foldl patsP []
theorem addP_len (acc : List Bts) (t : Tm) : (addP acc t).length ≤ acc.length + 1 := by
  unfold addP
  split
  · split <;> simp
  · omega
theorem fold_len {α β : Type} (f : List β → α → List β) (c : α → Nat) (h : ∀ a x, (f a x).length ≤ a.length + c x) : ∀ (l : List α) (a : List β), (l.foldl f a).length ≤ a.length + (l.map c).sum
  | [], a => by simp
  | x :: l, a => by
    have h1 := fold_len f c h l (f a x)
    have h2 := h a x
    simp only [List.foldl_cons, List.map_cons, List.sum_cons]
    omega
theorem sum_ones {α : Type} : ∀ l : List α, (l.map fun _ => 1).sum = l.length
  | [] => rfl
  | a :: l => by
    simp only [List.map_cons, List.sum_cons, List.length_cons, sum_ones l]
    omega
theorem patsR_len (acc : List Bts) (r : Rl) : (patsR acc r).length ≤ acc.length + r.ts.length := by
  have := fold_len addP (fun _ => 1) addP_len r.ts acc
  rw [sum_ones] at this
  exact this
theorem patsP_len (acc : List Bts) (p : List Rl) : (patsP acc p).length ≤ acc.length + (p.map fun r => r.ts.length).sum := fold_len patsR (fun r => r.ts.length) patsR_len p acc
theorem nf_name (g : NF) : ¬ g.str = "name" := by cases g <;> decide +kernel
theorem take_fold {α β : Type} (f : β → α → β) (b : β) {l : List α} {n : Nat} {a : α} (h : l[n]? = some a) : (l.take (n + 1)).foldl f b = f ((l.take n).foldl f b) a := by
  rw [List.take_add_one, h, Option.toList_some, List.foldl_append]
  rfl
def nTerms (ps : List (List Rl)) : Nat := (ps.map fun p => (p.map fun r => r.ts.length).sum).sum
theorem sum_take_le : ∀ (l : List Nat) (n : Nat), (l.take n).sum ≤ l.sum
  | [], n => by simp
  | a :: l, 0 => by simp
  | a :: l, n + 1 => by
    have := sum_take_le l n
    simp only [List.take_succ_cons, List.sum_cons]
    omega
section
variable {P : Program} {w : World} {K : PySem.W.Frag} {mg : Str → Option Value} {base : Heap}
def d_patterns_of : List PyData → PyData → Prop := fun ds r => ∃ ps : List (List Rl), nTerms ps ≤ 1000 ∧ ds = [.list (ps.map dP)] ∧ r = .list ((patsM ps).map dNs)
theorem w_patterns_of {f : Addr} {fd : FuncData} (Fn : FnP K "patterns_of" s_patterns_of f fd) (hm : mg "patterns_of" = some (.ref f)) : FnF P w K mg base "patterns_of" 1 d_patterns_of := by
  refine fn_mk Fn hm c_patterns_of (fun ds r ⟨p, _, h, _⟩ => by rw [h]; rfl) (fun _ _ _ _ _ _ us hl => match us, hl with | [_], _ => rfl) fun X F xd ds r ⟨ps, hps, h, hr⟩ => ?_
  subst h hr
  have bnd : ∀ (n m j : Nat) (p : List Rl) (r : Rl), ps[n]? = some p → p[m]? = some r → ((r.ts.take j).foldl addP ((p.take m).foldl patsR ((ps.take n).foldl patsP []))).length ≤ 1000 := by
    intro n m j p r hp hr
    have l1 := fold_len addP (fun _ => 1) addP_len (r.ts.take j) ((p.take m).foldl patsR ((ps.take n).foldl patsP []))
    have l2 := fold_len patsR (fun r => r.ts.length) patsR_len (p.take m) ((ps.take n).foldl patsP [])
    have l3 := fold_len patsP (fun p => (p.map fun r => r.ts.length).sum) patsP_len (ps.take n) []
    have t1 : ((ps.take (n + 1)).map fun p => (p.map fun r => r.ts.length).sum).sum ≤ nTerms ps := by
      rw [List.map_take]
      exact sum_take_le _ _
    have t2 : ((p.take (m + 1)).map fun r => r.ts.length).sum ≤ (p.map fun r => r.ts.length).sum := by
      rw [List.map_take]
      exact sum_take_le _ _
    rw [List.take_add_one, hp] at t1
    rw [List.take_add_one, hr] at t2
    rw [sum_ones, List.length_take] at l1
    have l4 : min j r.ts.length ≤ r.ts.length := Nat.min_le_right _ _
    simp only [Option.toList_some, List.map_append, List.map_cons, List.map_nil, List.sum_append, List.sum_cons, List.sum_nil, List.length_nil] at t1 t2 l3
    omega
  refine setF F xd 1 (ef_list as_nil (by decide)) ?_
  refine forN F xd 2 ps dP (src_list (nm F 0)) (fun n Γ' => ∃ s1 s2 s3 s4, Γ' = [.dat (.list (ps.map dP)), .ob (oL X.K (((ps.take n).foldl patsP []).map dNs)), s1, s2, s3, s4]) ⟨.un, .un, .un, .un, rfl⟩ ?_ ?_
  · rintro n p Γ' hp ⟨s1, s2, s3, s4, rfl⟩
    refine forN2 F xd 3 4 p (fun r => .str r.v.str) (fun r => .tuple (r.ts.map dT)) (src_tup (ds := p.map dR) (nm F 2)) (fun m Γ' => ∃ s2 s3 s4, Γ' = [.dat (.list (ps.map dP)), .ob (oL X.K (((p.take m).foldl patsR ((ps.take n).foldl patsP [])).map dNs)), .dat (dP p), s2, s3, s4]) ⟨s2, s3, s4, rfl⟩ ?_ ?_
    · rintro m r Γ' hr ⟨s2, s3, s4, rfl⟩
      refine forN2 F xd 3 5 r.ts (fun t => .bool t.neg) (fun t => dB t.body) (src_tup (ds := r.ts.map dT) (nm F 4)) (fun j Γ' => ∃ s2 s4, Γ' = [.dat (.list (ps.map dP)), .ob (oL X.K (((r.ts.take j).foldl addP ((p.take m).foldl patsR ((ps.take n).foldl patsP []))).map dNs)), .dat (dP p), s2, .dat (.tuple (r.ts.map dT)), s4]) ⟨_, s4, rfl⟩ ?_ ?_
      · rintro j t Γ' ht ⟨s2, s4, rfl⟩
        have hb := bnd n m j p r hp hr
        generalize hacc : (r.ts.take j).foldl addP ((p.take m).foldl patsR ((ps.take n).foldl patsP [])) = acc at hb ⊢
        have nx : (r.ts.take (j + 1)).foldl addP ((p.take m).foldl patsR ((ps.take n).foldl patsP [])) = addP acc t := by rw [take_fold addP _ ht, hacc]
        rw [nx]
        obtain ⟨ng, b⟩ := t
        obtain ⟨x, rest, hb'⟩ : ∃ x rest, dB b = .tuple (.str b.word :: x :: rest) := by cases b <;> exact ⟨_, _, rfl⟩
        have eb : ∀ {pos s}, E X [.dat (.list (ps.map dP)), s, .dat (dP p), .dat (.bool ng), .dat (.tuple (r.ts.map dT)), .dat (dB b)] (.Name "body" pos) (.tuple (.str b.word :: x :: rest)) := fun {pos s} => hb' ▸ nm F 5
        have e1 : ∀ {pos pos' pos'' j s}, E X [.dat (.list (ps.map dP)), s, .dat (dP p), .dat (.bool ng), .dat (.tuple (r.ts.map dT)), .dat (dB b)] (.Subscript (.Name "body" pos) (.Constant (.int 0) j pos') pos'') (.str b.word) := fun {_ _ _ _ _} => e_ixT eb e_int at0
        cases b with
        | nam q =>
          have eb' : ∀ {pos s'}, E X [.dat (.list (ps.map dP)), s', .dat (dP p), .dat (.bool ng), .dat (.tuple (r.ts.map dT)), .dat (dB (.nam q))] (.Name "body" pos) (.tuple [.str "name", dNs q]) := fun {_ _} => nm F 5
          refine when_ (t_and2 (t_eq e1 e_str (.str _ _)) fun _ => t_borrow 1 rfl (t_ninD F (ds := acc.map dNs) (e_ixT eb' e_int rfl) (nm F 1) (noscr_nats q) (noscrs_map noscr_nats _) (shp_shaped (shp_nats q)) (shp_shaped (shp_natss _)))) (fun h => ?_) (fun h => ?_)
          · rw [any_nats] at h
            have hq : q ∉ acc := by simp [Bd.word] at h; exact h
            refine app F 1 (ds := acc.map dNs) (e_ixT eb' e_int rfl) (ss_nil (ss_nil ⟨.dat (.bool ng), .dat (dB (.nam q)), ?_⟩)) (by rw [List.length_map]; omega)
            have e2 : addP acc ⟨ng, .nam q⟩ = acc ++ [q] := by simp [addP, hq]
            rw [e2, List.map_append]
            rfl
          · rw [any_nats] at h
            have hq : q ∈ acc := by simpa [Bd.word] using h
            refine ss_nil ⟨.dat (.bool ng), .dat (dB (.nam q)), ?_⟩
            have e2 : addP acc ⟨ng, .nam q⟩ = acc := by simp [addP, hq]
            rw [e2]
            rfl
        | num g s nn =>
          refine when_ (t_and2 (v := false) (t_eq e1 e_str (.str _ _)) fun h => ?_) (fun h => by simp at h) (fun h => ss_nil ⟨_, _, rfl⟩)
          exact absurd (of_decide_eq_true h) (nf_name g)
        | isk kk =>
          refine when_ (t_and2 (v := false) (t_eq e1 e_str (.str _ _)) fun h => absurd (of_decide_eq_true h) (by show ¬ ("is" : Str) = "name"; decide +kernel)) (fun h => by simp at h) (fun h => ss_nil ⟨_, _, rfl⟩)
        | could kk =>
          refine when_ (t_and2 (v := false) (t_eq e1 e_str (.str _ _)) fun h => absurd (of_decide_eq_true h) (by show ¬ ("could" : Str) = "name"; decide +kernel)) (fun h => by simp at h) (fun h => ss_nil ⟨_, _, rfl⟩)
        | act kk =>
          refine when_ (t_and2 (v := false) (t_eq e1 e_str (.str _ _)) fun h => absurd (of_decide_eq_true h) (by show ¬ ("act" : Str) = "name"; decide +kernel)) (fun h => by simp at h) (fun h => ss_nil ⟨_, _, rfl⟩)
      · rintro Γ' ⟨s2, s4, rfl⟩
        rw [List.take_length]
        refine ss_nil ⟨s2, .dat (.tuple (r.ts.map dT)), s4, ?_⟩
        rw [take_fold patsR _ hr]
        rfl
    · rintro Γ' ⟨s2, s3, s4, rfl⟩
      rw [List.take_length]
      refine ss_nil ⟨.dat (dP p), s2, s3, s4, ?_⟩
      rw [take_fold patsP _ hp]
      rfl
  · rintro Γ' ⟨s1, s2, s3, s4, rfl⟩
    rw [List.take_length]
    exact ss_freeze (i := 1) rfl (ret (nm F 1) rfl)
/-! ### about, all_hold, turned, verdict_of -/
def aboutM (ts : List Tm) (ws : List Str) : List Tm := ts.filter fun t => decide (t.body.word ∈ ws)
def d_about : List PyData → PyData → Prop := fun ds r => ∃ (ts : List Tm) (ws : List Str), ts.length ≤ 1000 ∧ ds = [.list (ts.map dT), .tuple (ws.map .str)] ∧ r = .list ((aboutM ts ws).map dT)
theorem dB_shape (b : Bd) : ∃ x rest, dB b = .tuple (.str b.word :: x :: rest) := by cases b <;> exact ⟨_, _, rfl⟩
theorem w_about {f : Addr} {fd : FuncData} (Fn : FnP K "about" s_about f fd) (hm : mg "about" = some (.ref f)) : FnF P w K mg base "about" 1 d_about := by
  refine fn_mk Fn hm c_about (fun ds r ⟨p, _, _, h, _⟩ => by rw [h]; rfl) (fun _ _ _ _ _ _ us hl => match us, hl with | [_, _], _ => rfl) fun X F xd ds r ⟨ts, ws, hl, h, hr⟩ => ?_
  subst h hr
  refine ret (lcN F 2 ts dT (src_list (nm F 0)) (fun t => decide (t.body.word ∈ ws)) dT (fun Y FY t ht => .one ?_) (fun Y FY t ht _ => nm FY 2) (by omega)) rfl
  rw [← inV_strs]
  obtain ⟨x, rest, hb⟩ := dB_shape t.body
  have et : ∀ {pos}, E Y [.dat (.list (ts.map dT)), .dat (.tuple (ws.map .str)), .dat (dT t)] (.Name "term" pos) (.tuple [.bool t.neg, dB t.body]) := fun {pos} => nm FY 2
  rw [hb] at et
  exact t_in (e_ixT (e_ixT et e_int rfl) e_int at0) (nm FY 1) rfl rfl (flat_strs' ws)
def d_all_hold : List PyData → PyData → Prop := fun ds r => ∃ (ts : List Tm) (x : PyData) (f : Fx), ts.length ≤ 1000 ∧ (∀ t ∈ ts, t.body.wf) ∧ (x = .tuple (ts.map dT) ∨ x = .list (ts.map dT)) ∧ ds = [x, dF f] ∧ r = .bool (ts.all fun t => hM t f)
theorem w_all_hold {f : Addr} {fd : FuncData} (Fn : FnP K "all_hold" s_all_hold f fd) (hm : mg "all_hold" = some (.ref f)) (bn : BN mg) (f1 : FnF P w K mg base "holds" 4 d_holds) : FnF P w K mg base "all_hold" 5 d_all_hold := by
  refine fn_mk Fn hm c_all_hold (fun ds r ⟨p, _, _, _, _, _, h, _⟩ => by rw [h]; rfl) (fun _ _ _ _ _ _ us hl => match us, hl with | [_, _], _ => rfl) fun X F xd ds r ⟨ts, x, f, hl, wf, hx, h, hr⟩ => ?_
  subst h hr
  exact ret (allOf F bn ts (fun t => hM t f) (lcA F 2 ts dT (src_seq (nm F 0) hx) (fun t => .bool (hM t f)) (fun Y FY t ht => ca2 FY f1 (nm FY 2) (nm FY 1) ⟨t, f, wf t ht, rfl, rfl⟩) (by omega))) rfl
def turnM (t : Tm) : Tm := ⟨!t.neg, t.body⟩
def d_turned : List PyData → PyData → Prop := fun ds r => ∃ t : Tm, ds = [dT t] ∧ r = dT (turnM t)
theorem w_turned {f : Addr} {fd : FuncData} (Fn : FnP K "turned" s_turned f fd) (hm : mg "turned" = some (.ref f)) : FnF P w K mg base "turned" 1 d_turned := by
  refine fn_mk Fn hm c_turned (fun ds r ⟨p, h, _⟩ => by rw [h]; rfl) (fun _ _ _ _ _ _ us hl => match us, hl with | [_], _ => rfl) fun X F xd ds r ⟨t, h, hr⟩ => ?_
  subst h hr
  have et : ∀ {pos}, E X [.dat (dT t)] (.Name "term" pos) (.tuple [.bool t.neg, dB t.body]) := fun {pos} => nm F 0
  exact ret (tu2 (e_not (e_ixT et e_int rfl)) (e_ixT et e_int rfl)) rfl
def vdM (p : List Rl) (i : Int) : Vd := if i < 0 then .hold else (p[i.toNat]?.map (·.v)).getD .hold
def d_verdict_of : List PyData → PyData → Prop := fun ds r => ∃ (p : List Rl) (i : Int), i < p.length ∧ ds = [dP p, .int i] ∧ r = .str (vdM p i).str
theorem w_verdict_of {f : Addr} {fd : FuncData} (Fn : FnP K "verdict_of" s_verdict_of f fd) (hm : mg "verdict_of" = some (.ref f)) : FnF P w K mg base "verdict_of" 1 d_verdict_of := by
  refine fn_mk Fn hm c_verdict_of (fun ds r ⟨p, i, _, h, _⟩ => by rw [h]; rfl) (fun _ _ _ _ _ _ us hl => match us, hl with | [_, _], _ => rfl) fun X F xd ds r ⟨p, i, hi, h, hr⟩ => ?_
  subst h hr
  refine ret (e_if (t_lt (nm F 1) e_int) (fun h => ?_) (fun h => ?_)) rfl
  · have h' : i < 0 := of_decide_eq_true h
    have : (vdM p i).str = "hold" := by simp [vdM, h']; rfl
    rw [this]
    exact e_str
  · have h' : ¬ i < 0 := of_decide_eq_false h
    have hl : i.toNat < p.length := by omega
    have hg : p[i.toNat]? = some p[i.toNat] := List.getElem?_eq_getElem hl
    have : vdM p i = p[i.toNat].v := by simp [vdM, h', hg]
    rw [this]
    refine e_ixT (ds := [.str p[i.toNat].v.str, .tuple (p[i.toNat].ts.map dT)]) (e_ixT (ds := p.map dR) (nm F 0) (nm F 1) ?_) e_int rfl
    have hn := atI_nn (xs := p.map dR) (i := i.toNat) (d := dR p[i.toNat]) (by rw [List.getElem?_map, hg]; rfl)
    rw [show ((i.toNat : Nat) : Int) = i by omega] at hn
    exact hn
end
end Z
set_option Elab.async false
set_option linter.all false
set_option maxRecDepth 100000
set_option maxHeartbeats 2000000
/-! zip of a list and a tuple; enumerate of a tuple. -/
namespace Z
open PySem PySem.Spec PyProof.Rows L2 Evl
/-- a list at a and a tuple at b, their items in new pairs -/
def ItzM (K : PySem.W.Frag) (a b : Addr) : It :=
  ⟨fun i H => ∃ (xs ys : List V) (x y : V), SqL K H a xs ∧ SqT K H b ys ∧ xs[i]? = some x ∧ ys[i]? = some y,
    fun i H v H' => ∃ T x y, v = .ref T ∧ H T = none ∧ H' = upd H T (.tup [x, y]) ∧ (∀ xs, SqL K H a xs → xs[i]? = some x) ∧ ∀ ys, SqT K H b ys → ys[i]? = some y,
    fun i H => ∃ xs ys : List V, SqL K H a xs ∧ SqT K H b ys ∧ xs.length = i ∧ ys.length = i⟩
theorem zip_sep {a b z TI TO i1 i2 : Addr} (D : ZipApart z TI TO i1 i2 a b) : ZipSep2 z TI TO i1 i2 [i1, a] [i2, b] := by
  obtain ⟨h1, h2, h3, h4, h5, h6, h7, h8, h9, h10, h11, h12, h13, h14, h15, h16, h17, h18⟩ := D
  constructor <;> simp <;> try assumption
  · exact ⟨h3.symm, h11.symm⟩
  · exact ⟨h8, h12.symm⟩
  · exact ⟨h4.symm, h15.symm⟩
  · exact ⟨h9, h16.symm⟩
  · exact ⟨h10, h17.symm⟩
  · exact ⟨h10.symm, h14.symm⟩
theorem turn_zipM {P : Program} {w : World} {K : PySem.W.Frag} {elts : List Expr} {kk : Nat} {tpos : Pos} {a b z TI TO i1 i2 : Addr} (D : ZipApart z TI TO i1 i2 a b) :
    Turn P w K (.Tuple elts kk tpos) (ItzM K a b) [z, TI, TO, i1, i2] z (fun i h => IsZip h z TI TO .none ∧ IsPair h TI (.ref i1) (.ref i2) ∧ (∃ x y, IsPair h TO x y) ∧ h.IsListIter i1 a i ∧ h.IsTupleIter i2 b i) where
  mem := by simp
  obj := fun i h st c hc => by
    obtain ⟨hz, hTI, ⟨x, y, hTO⟩, ⟨o1, e1, _, d1⟩, ⟨o2, e2, _, d2⟩⟩ := st
    simp only [List.mem_cons, List.not_mem_nil, or_false] at hc
    rcases hc with q | q | q | q | q <;> subst q
    · exact ⟨_, hz, fun v q => nomatch q⟩
    · exact ⟨_, hTI, fun v q => nomatch q⟩
    · exact ⟨_, hTO, fun v q => nomatch q⟩
    · exact ⟨o1, e1, fun v q => by rw [d1] at q; cases q⟩
    · exact ⟨o2, e2, fun v q => by rw [d2] at q; cases q⟩
  keep := fun i h h' st k => by
    obtain ⟨hz, hTI, ⟨x, y, hTO⟩, h1, h2⟩ := st
    exact ⟨k z (by simp) _ hz, k TI (by simp) _ hTI, ⟨x, y, k TO (by simp) _ hTO⟩, h1.at fun o q => k i1 (by simp) o q, h2.at fun o q => k i2 (by simp) o q⟩
  item := by
    intro X hP hw hK hc i pins s σ H E I hf st hg
    subst hP hw hK
    obtain ⟨hz, hTI, ⟨x0, y0, hTO⟩, h1, h2⟩ := st
    obtain ⟨xs, ys, x, y, hqx, hqy, hx, hy⟩ := hg
    obtain ⟨its, rv, p, _⟩ := I.list hqx
    obtain ⟨its2, rv2, p2, _⟩ := I.tuple hqy
    obtain ⟨u, hu, ru⟩ := rv.get hx
    obtain ⟨u2, hu2, ru2⟩ := rv2.get hy
    have hzl : z < s.heap.objs.size := Heap.lt_size hz
    have hh := I.ok.hd hc
    have ha : (X.A.in1).handled = none := hh
    refine wpAny_pyNext_zipD2_item (zip_sep D) (Draws.list ha i1 a D.l1i1 its.toArray) (Draws.tuple ha i2 b D.l2i2 its2.toArray) hz hTI hTO ⟨h1, p.isList⟩ ⟨h2, p2⟩ (by have := (List.getElem?_eq_some_iff.mp hu).1; simpa using this) (by have := (List.getElem?_eq_some_iff.mp hu2).1; simpa using this) fun w1 w2 h' tk q1 q2 z' TO' h1' h2' hT hsz hk => ?_
    have q1' : its.toArray[i]? = some w1 := q1
    have q2' : its2.toArray[i]? = some w2 := q2
    have e1 : w1 = u := by
      rw [List.getElem?_toArray, hu] at q1'
      exact (Option.some.inj q1').symm
    have e2 : w2 = u2 := by
      rw [List.getElem?_toArray, hu2] at q2'
      exact (Option.some.inj q2').symm
    subst e1 e2
    refine ⟨_, rfl, wpAny_letOwnedTupleGo_zip (s := { s with heap := h', toks := tk }) z' fun h'' z'' sb => ?_⟩
    have hT2 : h''.get? s.heap.objs.size = some { cls := .type "tuple", data := .seq #[w1, w2] } := (sb.2 _ (Nat.ne_of_gt hzl)).trans hT
    have new : ObjOk X.prog X.w (upd H s.heap.objs.size (.tup [x, y])) h'' s.heap.objs.size (.tup [x, y]) :=
      ⟨by show 2 ≤ sizeLine; decide, [w1, w2], .cons ru (.cons ru2 .nil), ⟨_, hT2, rfl, _, rfl⟩⟩
    have I1 : Inv X pins σ (upd H s.heap.objs.size (.tup [x, y])) { s with heap := h'', toks := tk } :=
      I.turnedNew (t' := tk) (ch := [z, TI, TO, i1, i2]) (fun c o hb q => (sb.2 c (fun q' => hb (by simp [q']))).trans (hk c o (fun q' => hb (by simp [q'])) (fun q' => hb (by simp [q'])) (fun q' => hb (by simp [q'])) (fun q' => hb (by simp [q'])) q)) hf (Nat.le_refl _) new
    refine ⟨.ref s.heap.objs.size, _, I1, rfl, ⟨_, x, y, rfl, I.hok.fresh (Nat.le_refl _), rfl, fun l hl => by rw [I.list_inj hl hqx]; exact hx, fun l hl => by rw [I.tuple_inj hl hqy]; exact hy⟩, ⟨z'', ?_, ⟨w1, w2, ?_⟩, ?_, ?_⟩, fun c hcm => ?_⟩
    · exact (sb.2 _ D.TIz).trans (hk _ _ D.TIz D.TITO D.TIi1 D.TIi2 hTI)
    · exact (sb.2 _ D.TOz).trans TO'
    · exact h1'.1.at fun o q => (sb.2 _ D.i1z).trans q
    · exact h2'.1.at fun o q => (sb.2 _ D.i2z).trans q
    · have hlt : c < s.heap.objs.size := by
        simp only [List.mem_cons, List.not_mem_nil, or_false] at hcm
        rcases hcm with q | q | q | q | q <;> subst q
        · exact hzl
        · exact Heap.lt_size hTI
        · exact Heap.lt_size hTO
        · obtain ⟨_, e1, _⟩ := h1
          exact Heap.lt_size e1
        · obtain ⟨_, e2, _⟩ := h2
          exact Heap.lt_size e2
      rw [upd_ne (Nat.ne_of_lt hlt)]
      exact (hf c hcm).1
  done := by
    intro X hP hw hK hc i pins s σ H E I hf st hg
    subst hP hw hK
    obtain ⟨hz, hTI, ⟨x0, y0, hTO⟩, h1, h2⟩ := st
    obtain ⟨xs, ys, hqx, hqy, hend, hend2⟩ := hg
    obtain ⟨its, rv, p, _⟩ := I.list hqx
    obtain ⟨its2, rv2, p2, _⟩ := I.tuple hqy
    have l1 := rv.length
    have l2 := rv2.length
    have ha : (X.A.in1).handled = none := I.ok.hd hc
    refine wpAny_pyNext_zipD2_end (zip_sep D) (Draws.list ha i1 a D.l1i1 its.toArray) (Draws.tuple ha i2 b D.l2i2 its2.toArray) hz hTI hTO ⟨h1, p.isList⟩ ⟨h2, p2⟩ (by simp; omega) (by simp; omega) (.inl (by simp; omega)) fun h' tk hk => ⟨rfl, I.turnedL (t' := tk) (ch := [z, TI, TO, i1, i2]) (fun c o hb q =>
      hk c o (fun q' => hb (by simp [q'])) (fun q' => hb (by simp [q'])) (fun q' => hb (by simp [q'])) (fun q' => hb (by simp [q'])) q) hf⟩
  self := fun A i s Q E st h => wpAny_pyIter_zip st.1 h
def iZipM (K : PySem.W.Frag) (ta : TA) : TI := fun σ H R => ta σ H fun vs H1 => ∃ a b xs ys, vs = [.ref a, .ref b] ∧ SqL K H1 a xs ∧ SqT K H1 b ys ∧ R (ItzM K a b) H1
theorem pi_zipM {X : Cx} {e e2 : Expr} {ta : TA} {p pos tpos : Pos} {elts : List Expr} {kk : Nat} (hg : Gl X "zip") (hm : X.mg "zip" = none) (ha : PA X [e, e2] ta)
    (hs : starEach [e, e2] X.env = (false, eval e X.env) :: starEach [e2] X.env := by rfl) (hpl : (backTo pos (starEach [e2] X.env)).any (·.1) = false := by rfl) :
    PI X (.Tuple elts kk tpos) (.Call (.Name "zip" p) [e, e2] [] pos) (iZipM X.K ta) := by
  refine ⟨fun pins s σ H R I h => ?_⟩
  refine Call_ (ld_blt I hg hm PyProof.Rows.boot_zip (PyProof.Rows.callWith_type1 (thn (ha.run pos pins s σ H _ I h) fun us s1 ⟨vs, H1, I1, r1, q1⟩ => ?_) hs hpl))
  obtain ⟨a, b, xs, ys, ex, hqx, hqy, q⟩ := q1
  subst ex
  cases r1 with
  | cons r rr =>
    cases rr with
    | cons r' rr =>
      cases rr
      cases r
      cases r'
      obtain ⟨its, rv, p1, _⟩ := I1.list hqx
      obtain ⟨its2, rv2, p2, _⟩ := I1.tuple hqy
      have p2' : s1.heap.IsTuple b its2.toArray := p2
      have p1l := p1.lt
      obtain ⟨o2, ho2, _⟩ := id p2
      refine zip_begins2 (begins_list a its.toArray) (begins_tuple b its2.toArray) p1.isList p2' fun h' hz hTI hTO g1 g2 hsz hk => wpAny_pyIter_zip hz ?_
      have I2 : Inv X pins σ H1 { s1 with heap := h' } := I1.kept (t' := s1.toks) hk
      refine ⟨s1.heap.objs.size + 4, [s1.heap.objs.size + 4, s1.heap.objs.size + 2, s1.heap.objs.size + 3, s1.heap.objs.size, s1.heap.objs.size + 1], _, _, H1, rfl, I2, turn_zipM (PySem.W.ktu_apart s1.heap.objs.size a b p1l (Heap.lt_size ho2)), ⟨hz, hTI, ⟨_, _, hTO⟩, ⟨_, g1, rfl, rfl⟩, ⟨_, g2, rfl, rfl⟩⟩, fun c hcm => ?_, q⟩
      have hle : s1.heap.objs.size ≤ c := by
        simp only [List.mem_cons, List.not_mem_nil, or_false] at hcm
        rcases hcm with q | q | q | q | q <;> subst q
        · exact Nat.le_add_right _ _
        · exact Nat.le_add_right _ _
        · exact Nat.le_add_right _ _
        · exact Nat.le_refl _
        · exact Nat.le_add_right _ _
      exact I1.fpOk hle (I1.hok.fresh hle)
/-! ### enumerate of a tuple -/
def IteT (K : PySem.W.Frag) (a : Addr) : It :=
  ⟨fun i H => ∃ (xs : List V) (x : V), SqT K H a xs ∧ xs[i]? = some x, fun i H v H' => ∃ T x, v = .ref T ∧ H T = none ∧ H' = upd H T (.tup [.int (i : Nat), x]) ∧ ∀ xs, SqT K H a xs → xs[i]? = some x, fun i H => ∃ xs : List V, SqT K H a xs ∧ xs.length = i⟩
theorem turn_enumT {P : Program} {w : World} {K : PySem.W.Frag} {elts : List Expr} {kk : Nat} {tpos : Pos} {a e it : Addr} (hai : a ≠ it) (hae : a ≠ e) :
    Turn P w K (.Tuple elts kk tpos) (IteT K a) [e, it] e (fun i h => (∃ old, IsEnum h e it ((i : Nat) : Int) old) ∧ h.IsTupleIter it a i ∧ e ≠ it) where
  mem := by simp
  obj := fun i h st b hb => by
    obtain ⟨⟨old, he⟩, ⟨o, ho, hc, hd⟩, _⟩ := st
    simp only [List.mem_cons, List.not_mem_nil, or_false] at hb
    rcases hb with z | z <;> subst z
    · exact ⟨_, he, fun v q => nomatch q⟩
    · exact ⟨o, ho, fun v q => by rw [hd] at q; cases q⟩
  keep := fun i h h' st k => let ⟨⟨old, he⟩, hi, hne⟩ := st; ⟨⟨old, k e (by simp) _ he⟩, hi.at fun o q => k it (by simp) o q, hne⟩
  item := by
    intro X hP hw hK hc i pins s σ H E I hf st hg
    subst hP hw hK
    obtain ⟨⟨old, he⟩, hit, hne⟩ := st
    obtain ⟨xs, x, hq, hx⟩ := hg
    obtain ⟨its, rv, p, hz⟩ := I.tuple hq
    obtain ⟨u, hu, ru⟩ := rv.get hx
    have hel : e < s.heap.objs.size := Heap.lt_size he
    have hil : it < s.heap.objs.size := by obtain ⟨_, q, _⟩ := hit; exact Heap.lt_size q
    have ha : (X.A.in1).handled = none := I.ok.hd hc
    refine wpAny_pyNext_enum_itemD (Draws.tuple ha it a hai its.toArray) he ⟨hit, p⟩ (by have := (List.getElem?_eq_some_iff.mp hu).1; simpa using this) hne (by simp; exact ⟨hne, hae.symm⟩) fun w1 h' tk q1 ho hit' hT hsz hk => ?_
    have q1' : its.toArray[i]? = some w1 := q1
    have e1 : w1 = u := by
      rw [List.getElem?_toArray, hu] at q1'
      exact (Option.some.inj q1').symm
    subst e1
    refine ⟨_, rfl, wpAny_letOwnedTupleGo_enum (s := { s with heap := h', toks := tk + 1 }) ho fun h'' he' sb => ?_⟩
    have hT2 : h''.get? s.heap.objs.size = some { cls := .type "tuple", data := .seq #[.int i tk, w1] } := (sb.2 _ (Nat.ne_of_gt hel)).trans hT
    have new : ObjOk X.prog X.w (upd H s.heap.objs.size (.tup [.int (i : Nat), x])) h'' s.heap.objs.size (.tup [.int (i : Nat), x]) :=
      ⟨by show 2 ≤ sizeLine; decide, [.int i tk, w1], .cons ⟨_, rfl⟩ (.cons ru .nil), ⟨_, hT2, rfl, _, rfl⟩⟩
    have I1 : Inv X pins σ (upd H s.heap.objs.size (.tup [.int (i : Nat), x])) { s with heap := h'', toks := tk + 1 } :=
      I.turnedNew (t' := tk + 1) (ch := [e, it]) (fun b ob hb q => (sb.2 b (fun z => hb (by simp [z]))).trans (hk b ob (fun z => hb (by simp [z])) (fun z => hb (by simp [z])) q)) hf (Nat.le_refl _) new
    refine ⟨.ref s.heap.objs.size, _, I1, rfl, ⟨_, x, rfl, I.hok.fresh (Nat.le_refl _), rfl, fun ys hy => by rw [I.tuple_inj hy hq]; exact hx⟩, ⟨⟨w1, ?_⟩, hit'.1.at fun o q => (sb.2 it (Ne.symm hne)).trans q, hne⟩, fun b hb => ?_⟩
    · have e1 : ((i + 1 : Nat) : Int) = (i : Int) + 1 := by omega
      rw [e1]; exact he'
    · have hb' : b < s.heap.objs.size := by
        simp only [List.mem_cons, List.not_mem_nil, or_false] at hb
        rcases hb with z | z <;> subst z
        · exact hel
        · exact hil
      rw [upd_ne (Nat.ne_of_lt hb')]
      exact (hf b hb).1
  done := by
    intro X hP hw hK hc i pins s σ H E I hf st hg
    subst hP hw hK
    obtain ⟨⟨old, he⟩, hit, hne⟩ := st
    obtain ⟨xs, hq, hx⟩ := hg
    obtain ⟨its, rv, p, hz⟩ := I.tuple hq
    obtain ⟨f0, f1, f2, f3, f4, f5⟩ := hf it (by simp)
    have hl := rv.length
    have ha : (X.A.in1).handled = none := I.ok.hd hc
    have en : its.toArray.size = i := by simp; omega
    refine wpAny_pyNext_enum_endD (n := its.toArray.size) (Draws.tuple ha it a hai its.toArray) he (by rw [en]; exact ⟨hit, p⟩) fun h' eb => ⟨rfl, I.turned (t' := s.toks) (fun b o hb q => eb b o hb q) f0 f1 f3 f4 f5⟩
  self := fun A i s Q E st h => let ⟨⟨_, he⟩, _⟩ := st; wpAny_pyIter_enum he h
theorem meets_enumT (l : Addr) (items : Array Value) (n : Nat) (dct : Option Addr) (sl : Array (Option Value)) :
    PySem.Meets (Builtin.«enumerate.__new__» ⟨[.type "enumerate", .ref l], []⟩) (fun _ R s => s.heap.get? l = some { cls := .type "tuple", dict := dct, data := .seq items n, slots := sl } ∧
      R (.ok (.ret (.ref (s.heap.push { cls := .type "tuple_iterator", data := .fields #[.ref l, .int 0 0] }).objs.size)))
        { s with heap := (s.heap.push { cls := .type "tuple_iterator", data := .fields #[.ref l, .int 0 0] }).push { cls := .type "enumerate", data := .fields #[.none, .bool false, .ref s.heap.objs.size, rawInt 0, .none, .none] } }) :=
  .of_wp fun prog w A R s h => by
    obtain ⟨hp, g, d, tk, os⟩ := s
    obtain ⟨hl, h⟩ := h
    have hsub := sub_enumerate
    have hL : Heap.IsTuple (Shared.heap ⟨hp, g, d, tk, os⟩) l items := ⟨_, hl, rfl, n, rfl⟩
    have q1 : ∀ {A' : Around} {E : Value → Shared → Prop} {Q : Value → Shared → Prop}, Q (.ref hp.objs.size) ⟨hp.push { cls := .type "tuple_iterator", data := .fields #[.ref l, .int 0 0] }, g, d, tk, os⟩ → wpAny (model prog w) A' (pyIter (.ref l)) Q E ⟨hp, g, d, tk, os⟩ :=
      fun q => (begins_tuple l items).iter prog w _ _ ⟨hp, g, d, tk, os⟩ _ hL q
    wp_walk using q1
    refine wpAny_stack_any fun st => wpAny_pure ?_
    split
    · rename_i c _ _ _ _ _
      cases (c == Value.type "enumerate")
      · wp_walk using q1
        exact ⟨_, rfl, h⟩
      · wp_walk using q1
        exact ⟨_, rfl, h⟩
    · wp_walk using q1
      exact ⟨_, rfl, h⟩
theorem call_enumT {prog : Program} {w : World} {A : Around} {E : Value → Shared → Prop} {s : Shared} {l : Addr} {items : Array Value} {Q : Value → Shared → Prop} (hL : s.heap.IsTuple l items)
    (h : ∀ h', IsEnum h' (s.heap.objs.size + 1) s.heap.objs.size 0 .none → h'.IsTupleIter s.heap.objs.size l 0 → h'.objs.size = s.heap.objs.size + 2 →
      (∀ b o, s.heap.get? b = some o → h'.get? b = some o) → Q (.ref (s.heap.objs.size + 1)) { s with heap := h' }) :
    wpAny (model prog w) A (call (.type "enumerate") [.ref l]) Q E s := by
  obtain ⟨⟨c, dct, dt, sl⟩, hl, hc, n, hd⟩ := hL
  replace hc : c = .type "tuple" := hc
  replace hd : dt = .seq items n := hd
  subst hc hd
  refine callType_new F.called_enumerate (by decide) (F.typeCall_enumerate_1 _) (F.newCall_enumerate_1 _) (fun obj => F.args_object_init_2 obj _) F.entry_enumerate_new
    (meets_enumT l items n dct sl) ⟨hl, ?_⟩
  have hz : (s.heap.push { cls := .type "tuple_iterator", data := .fields #[.ref l, .int 0 0] }).objs.size = s.heap.objs.size + 1 := Heap.size_push ..
  show _ ∧ _
  rw [hz]
  have he : IsEnum ((s.heap.push { cls := .type "tuple_iterator", data := .fields #[.ref l, .int 0 0] }).push
      { cls := .type "enumerate", data := .fields #[.none, .bool false, .ref s.heap.objs.size, rawInt 0, .none, .none] }) (s.heap.objs.size + 1) s.heap.objs.size 0 .none := by
    have := Heap.get?_push_size (s.heap.push { cls := .type "tuple_iterator", data := .fields #[.ref l, .int 0 0] })
      (o := { cls := .type "enumerate", data := .fields #[.none, .bool false, .ref s.heap.objs.size, rawInt 0, .none, .none] }) rfl
    rw [hz] at this
    exact this
  refine ⟨⟨_, he, rfl⟩, h _ he ⟨_, Heap.get?_push_of_some _ (Heap.get?_push_size _ rfl), rfl, rfl⟩ (by rw [Heap.size_push, hz]) fun b o x => Heap.get?_push_of_some _ (Heap.get?_push_of_some _ x)⟩
def iEnumT (K : PySem.W.Frag) (ta : TA) : TI := fun σ H R => ta σ H fun vs H1 => ∃ a xs, vs = [.ref a] ∧ SqT K H1 a xs ∧ R (IteT K a) H1
theorem pi_enumT {X : Cx} {e : Expr} {ta : TA} {p pos tpos : Pos} {elts : List Expr} {kk : Nat} (hg : Gl X "enumerate") (hm : X.mg "enumerate" = none) (ha : PA X [e] ta) (hs : starEach [e] X.env = [(false, eval e X.env)] := by rfl) :
    PI X (.Tuple elts kk tpos) (.Call (.Name "enumerate" p) [e] [] pos) (iEnumT X.K ta) := by
  refine ⟨fun pins s σ H R I h => ?_⟩
  refine Call_ (ld_blt I hg hm boot_enumerate (PyProof.Rows.callWith_type1 (thn (ha.run pos pins s σ H _ I h) fun us s1 ⟨vs, H1, I1, r1, q1⟩ => ?_) hs rfl))
  obtain ⟨a, xs, ex, hq, q⟩ := q1
  subst ex
  cases r1 with
  | cons r rr =>
    cases rr
    cases r
    obtain ⟨its, rv, p', hz⟩ := I1.tuple hq
    have p2 : s1.heap.IsTuple a its.toArray := p'
    obtain ⟨o2, ho2, _⟩ := id p'
    have hlt : a < s1.heap.objs.size := Heap.lt_size ho2
    refine call_enumT p2 fun h' he hit hsz hk => wpAny_pyIter_enum he ?_
    have I2 : Inv X pins σ H1 { s1 with heap := h' } := I1.kept (t' := s1.toks) hk
    refine ⟨s1.heap.objs.size + 1, [s1.heap.objs.size + 1, s1.heap.objs.size], _, _, H1, rfl, I2, turn_enumT (a := a) (e := s1.heap.objs.size + 1) (it := s1.heap.objs.size) (Nat.ne_of_lt hlt) (Nat.ne_of_lt (Nat.lt_succ_of_lt hlt)), ⟨⟨.none, he⟩, hit, Nat.succ_ne_self _⟩, fun b hb => ?_, q⟩
    have hle : s1.heap.objs.size ≤ b := by
      simp only [List.mem_cons, List.not_mem_nil, or_false] at hb
      rcases hb with z | z <;> subst z
      · exact Nat.le_add_right _ _
      · exact Nat.le_refl _
    exact I1.fpOk hle (I1.hok.fresh hle)
/-! ### as sources -/
section
variable {X : Cx} {P : Program} {w : World} {K : PySem.W.Frag} {mg : Str → Option Value} {base : Heap} {N : List Str} {sc : Scope} {k : Nat}
variable {Γ : List Sl} {e a b tg : Expr} {ds es : List PyData} {pos p tpos : Pos} {elts : List Expr} {kk : Nat}
def pairsD (ds es : List PyData) : List PyData := (ds.zip es).map fun p => .tuple [p.1, p.2]
theorem evi_zipM {ta : TA} (h : EvS K ta Γ [.list ds, .tuple es]) (hl : ds.length = es.length) : EvI K (iZipM K ta) Γ (pairsD ds es) := fun G0 H0 σ G H hA R hR => h G0 H0 σ G H hA _ fun vs G1 H1 g1 d1 => by
  cases d1 with
  | cons h3 h4 =>
    cases h4 with
    | cons h4 h5 =>
      cases h5
      cases h3 with
      | @lst l1 xs _ hx dx =>
        cases h4 with
        | @tup l2 ys _ hy dy =>
          have lx := dpa_len dx
          have ly := dpa_len dy
          have lp : (pairsD ds es).length = ds.length := by simp [pairsD]; omega
          refine ⟨l1, l2, xs, ys, rfl, sq_of (g1.gh _ _ hx), ex_t g1.gh hy, hR _ G1 H1 g1 ⟨fun i H' hi e => ?_, fun i d x G2 H2 H3 hd hyl e e2 => ?_, fun H' e => ⟨xs, ys, sq_of (e _ _ hx), ex_t e hy, by omega, by omega⟩⟩⟩
          · rw [lp] at hi
            exact ⟨xs, ys, xs[i], ys[i], sq_of (e _ _ hx), ex_t e hy, List.getElem?_eq_getElem (by omega), List.getElem?_eq_getElem (by omega)⟩
          · obtain ⟨T, x1, y1, e3, hT, e4, f1, f2⟩ := hyl
            subst e3 e4
            have hi : i < ds.length := by
              have := (List.getElem?_eq_some_iff.mp hd).1
              omega
            have g1' := f1 xs (sq_of (e2 _ _ (e _ _ hx)))
            have g2' := f2 ys (ex_t e2 (ex_t e hy))
            obtain ⟨dd1, q1, q2⟩ := dpa_getV dx g1'
            obtain ⟨dd2, q3, q4⟩ := dpa_getV dy g2'
            have hd' : d = .tuple [dd1, dd2] := by
              unfold pairsD at hd
              rw [List.getElem?_map, List.getElem?_zip_eq_some (z := (dd1, dd2)) |>.mpr ⟨q1, q3⟩] at hd
              exact (Option.some.inj hd).symm
            subst hd'
            have g : Gr G2 H2 (upd G2 T (.tup [x1, y1])) (upd H2 T (.tup [x1, y1])) := Gr.new e2 hT
            exact ⟨_, g, .tup (st_of upd_same) (.cons (dp_ex (e.trans g.gg) _ _ q2) (.cons (dp_ex (e.trans g.gg) _ _ q4) .nil))⟩
theorem evi_enumT {ta : TA} (h : EvS K ta Γ [.tuple es]) : EvI K (iEnumT K ta) Γ (es.zipIdx.map fun p => .tuple [.int (p.2 : Nat), p.1]) := fun G0 H0 σ G H hA R hR => h G0 H0 σ G H hA _ fun vs G1 H1 g1 d1 => by
  cases d1 with
  | cons h3 h4 =>
    cases h4
    cases h3 with
    | @tup l2 ys _ hy dy =>
      have ly := dpa_len dy
      refine ⟨l2, ys, rfl, ex_t g1.gh hy, hR _ G1 H1 g1 ⟨fun i H' hi e => ?_, fun i d x G2 H2 H3 hd hyl e e2 => ?_, fun H' e => ⟨ys, ex_t e hy, by simp; omega⟩⟩⟩
      · simp at hi
        exact ⟨ys, ys[i], ex_t e hy, List.getElem?_eq_getElem (by omega)⟩
      · obtain ⟨T, y1, e3, hT, e4, f2⟩ := hyl
        subst e3 e4
        have g2' := f2 ys (ex_t e2 (ex_t e hy))
        obtain ⟨dd2, q3, q4⟩ := dpa_getV dy g2'
        have hd' : d = .tuple [.int (i : Nat), dd2] := by
          rw [List.getElem?_map, List.getElem?_zipIdx, q3] at hd
          have := (Option.some.inj hd).symm
          simpa using this
        subst hd'
        have g : Gr G2 H2 (upd G2 T (.tup [.int (i : Nat), y1])) (upd H2 T (.tup [.int (i : Nat), y1])) := Gr.new e2 hT
        exact ⟨_, g, .tup (st_of upd_same) (.cons (.int _) (.cons (dp_ex (e.trans g.gg) _ _ q4) .nil))⟩
theorem src_zipM (F : XF X P w K mg base N sc k) (bn : BN mg) (ha : E X Γ a (.list ds)) (hb : E X Γ b (.tuple es)) (hl : ds.length = es.length) (hg : glB sc "zip" = true := by rfl)
    (hs : starEach [a, b] X.env = (false, eval a X.env) :: starEach [b] X.env := by rfl) (hs2 : starEach [b] X.env = [(false, eval b X.env)] := by rfl) : Src X Γ (.Tuple elts kk tpos) (.Call (.Name "zip" p) [a, b] [] pos) (pairsD ds es) :=
  ⟨_, pi_zipM (F.gl hg) (F.none bn.zip) paS hs (by rw [hs2]; rfl), evi_zipM (as_cons ha (as_cons hb as_nil hs2) hs) hl⟩
theorem src_enumT (F : XF X P w K mg base N sc k) (bn : BN mg) (ha : E X Γ a (.tuple es)) (hg : glB sc "enumerate" = true := by rfl) (hs : starEach [a] X.env = [(false, eval a X.env)] := by rfl) : Src X Γ (.Tuple elts kk tpos) (.Call (.Name "enumerate" p) [a] [] pos) (es.zipIdx.map fun p => .tuple [.int (p.2 : Nat), p.1]) :=
  ⟨_, pi_enumT (F.gl hg) (F.none bn.enum) paS hs, evi_enumT (as_cons ha as_nil hs)⟩
end
end Z
set_option Elab.async false
set_option linter.all false
set_option maxRecDepth 100000
set_option maxHeartbeats 4000000
/-! More short forms: two clauses over names, a nested target, a filter with a call. -/
namespace Z
open PySem PySem.Spec PyProof.Rows L2 Evl
section
variable {X : Cx} {P : Program} {w : World} {K : PySem.W.Frag} {mg : Str → Option Value} {base : Heap} {N : List Str} {sc scope : Scope} {k : Nat}
variable {Γ Γ' : List Sl} {e elt iter iter1 tg tg1 a b c e1 e2 e3 e4 e5 : Expr} {es ifs ifs1 : List Expr} {d x y z d1 d2 d3 d4 d5 : PyData} {ds : List PyData} {pos p px py pz cp : Pos} {is js : List Nat} {g g1 : TG} {κ : Kt} {st : Stmt} {sts rest body : List Stmt} {nm1 nm2 : Str} {v : Bool}
theorem pi_vT (F : XF X P w K mg base N sc k) (m : Nat) {x : Str} (hN : N[m]? = some x) (hv : visB sc x = true) (hd : (x == ("__debug__" : Str)) = false) (hcd : (x == ("__classdict__" : Str)) = false) : PI X tg (.Name x pos) (iTup K (tVar m)) := by
  have := pi_tup (tg := tg) (pe_var (X := X) (i := m) (pos := pos) (by rw [F.hN]; exact hN) (by rw [F.hsc]; exact vis_of hv) hd hcd)
  rwa [F.hK] at this
theorem pi_vL (F : XF X P w K mg base N sc k) (m : Nat) {x : Str} (hN : N[m]? = some x) (hv : visB sc x = true) (hd : (x == ("__debug__" : Str)) = false) (hcd : (x == ("__classdict__" : Str)) = false) : PI X tg (.Name x pos) (iList K (tVar m)) := by
  have := pi_list (tg := tg) (pe_var (X := X) (i := m) (pos := pos) (by rw [F.hN]; exact hN) (by rw [F.hsc]; exact vis_of hv) hd hcd)
  rwa [F.hK] at this
theorem nob_of {Γ : List Sl} (h : (Γ.all fun s => match s with | .ob _ => false | _ => true) = true) : ∀ (i : Nat) (o : Ob), Γ[i]? ≠ some (.ob o) := fun i o e => by
  have := List.all_eq_true.mp h _ (List.mem_of_getElem? e)
  simp at this
theorem t_cast {u v : Bool} (h : T X Γ e u) (q : u = v) : T X Γ e v := q ▸ h
theorem e_cast (h : E X Γ e x) (q : x = y) : E X Γ e y := q ▸ h
/-- [elt for x in iter for y in t], t a tuple's name -/
theorem lc2T {α β : Type} (F : XF X P w K mg base N sc k) (i j m : Nat) (xs : List α) (enc : α → PyData) (ys : List β) (enc1 : β → PyData) {x y t : Str} (hs : Src X Γ (.Name x px) iter (xs.map enc)) (hz0 : xs.length ≤ 300) (hz : ys.length ≤ 300) (h : α → β → PyData)
    (hm : ∀ d ∈ xs, ((wipeG Γ [i, j]).set i (.dat (enc d)))[m]? = some (.dat (.tuple (ys.map enc1))))
    (hob : ∀ d ∈ xs, (((wipeG Γ [i, j]).set i (.dat (enc d))).all fun s => match s with | .ob _ => false | _ => true) = true)
    (he : ∀ Y, XF Y P w K mg base N (relS scope sc) k → ∀ d ∈ xs, ∀ e ∈ ys, E Y ((wipeG ((wipeG Γ [i, j]).set i (.dat (enc d))) [j]).set j (.dat (enc1 e))) elt (h d e))
    (ok : blkC N sc scope [(x, i), (y, j)] = true := by decide +kernel) (hN : N[i]? = some x := by rfl) (hl : lclB (relS scope sc) x = true := by rfl) (hN2 : N[j]? = some y := by rfl) (hl2 : lclB (relS scope sc) y = true := by rfl) (hN3 : N[m]? = some t := by rfl) (hv3 : visB (relS scope sc) t = true := by rfl)
    (hd : (t == ("__debug__" : Str)) = false := by decide) (hcd : (t == ("__classdict__" : Str)) = false := by decide)
    (hfs : ∀ x, foldedSetIterable iter X.env x = pure x := by intro _; rfl) (hfs1 : ∀ env x, foldedSetIterable (.Name t pz) env x = pure x := by intro _ _; rfl) :
    E X Γ (.ListComp elt [⟨.Name x px, iter, [], 0⟩, ⟨.Name y py, .Name t pz, [], 0⟩] scope pos) (.list (xs.flatMap fun d => ys.map (h d))) :=
  e_lc2 (is := [i]) (js := [j]) F [(x, i), (y, j)] [j] ok xs enc hs hz0 (fun _ => ys) enc1 (fun _ _ => hz) h (fun d => (wipeG Γ [i, j]).set i (.dat (enc d))) (fun d e => (wipeG ((wipeG Γ [i, j]).set i (.dat (enc d))) [j]).set j (.dat (enc1 e))) (by simp) (by simp) (by simp)
    (fun d hd => nob_of (hob d hd)) (fun Y FY => pg_nmB FY i hN hl) (fun d _ => tgd_name i) (iTup K (tVar m)) (fun Y FY => pi_vT FY m hN3 hv3 hd hcd) (fun d hd => evi_tup (evd_var (hm d hd))) (fun Y FY => pg_nmB FY j hN2 hl2) (fun d _ e _ => tgd_name j) he hfs hfs1
theorem lc2L {α β : Type} (F : XF X P w K mg base N sc k) (i j m : Nat) (xs : List α) (enc : α → PyData) (ys : α → List β) (enc1 : β → PyData) {x y t : Str} (hs : Src X Γ (.Name x px) iter (xs.map enc)) (hz0 : xs.length ≤ 300) (hz : ∀ a ∈ xs, (ys a).length ≤ 300) (h : α → β → PyData)
    (hm : ∀ d ∈ xs, ((wipeG Γ [i, j]).set i (.dat (enc d)))[m]? = some (.dat (.list ((ys d).map enc1))))
    (hob : ∀ d ∈ xs, (((wipeG Γ [i, j]).set i (.dat (enc d))).all fun s => match s with | .ob _ => false | _ => true) = true)
    (he : ∀ Y, XF Y P w K mg base N (relS scope sc) k → ∀ d ∈ xs, ∀ e ∈ ys d, E Y ((wipeG ((wipeG Γ [i, j]).set i (.dat (enc d))) [j]).set j (.dat (enc1 e))) elt (h d e))
    (ok : blkC N sc scope [(x, i), (y, j)] = true := by decide +kernel) (hN : N[i]? = some x := by rfl) (hl : lclB (relS scope sc) x = true := by rfl) (hN2 : N[j]? = some y := by rfl) (hl2 : lclB (relS scope sc) y = true := by rfl) (hN3 : N[m]? = some t := by rfl) (hv3 : visB (relS scope sc) t = true := by rfl)
    (hd : (t == ("__debug__" : Str)) = false := by decide) (hcd : (t == ("__classdict__" : Str)) = false := by decide)
    (hfs : ∀ x, foldedSetIterable iter X.env x = pure x := by intro _; rfl) (hfs1 : ∀ env x, foldedSetIterable (.Name t pz) env x = pure x := by intro _ _; rfl) :
    E X Γ (.ListComp elt [⟨.Name x px, iter, [], 0⟩, ⟨.Name y py, .Name t pz, [], 0⟩] scope pos) (.list (xs.flatMap fun d => (ys d).map (h d))) :=
  e_lc2 (is := [i]) (js := [j]) F [(x, i), (y, j)] [j] ok xs enc hs hz0 ys enc1 hz h (fun d => (wipeG Γ [i, j]).set i (.dat (enc d))) (fun d e => (wipeG ((wipeG Γ [i, j]).set i (.dat (enc d))) [j]).set j (.dat (enc1 e))) (by simp) (by simp) (by simp)
    (fun d hd => nob_of (hob d hd)) (fun Y FY => pg_nmB FY i hN hl) (fun d _ => tgd_name i) (iList K (tVar m)) (fun Y FY => pi_vL FY m hN3 hv3 hd hcd) (fun d hd => evi_list (evd_var (hm d hd))) (fun Y FY => pg_nmB FY j hN2 hl2) (fun d _ e _ => tgd_name j) he hfs hfs1
/-- x = [elt for y in iter if ..], x a local name -/
theorem setLcN {α : Type} (F : XF X P w K mg base N sc k) (xd : XD X) (q i : Nat) (xs : List α) (enc : α → PyData) {x0 x : Str} (hs : Src X Γ (.Name x px) iter (xs.map enc)) (f : α → Bool) (h : α → PyData)
    (ht : ∀ Y, XF Y P w K mg base N (relS scope sc) k → ∀ d ∈ xs, Tis Y (Γ.set i (.dat (enc d))) ifs (f d)) (he : ∀ Y, XF Y P w K mg base N (relS scope sc) k → ∀ d ∈ xs, f d = true → E Y (Γ.set i (.dat (enc d))) elt (h d))
    (hz : xs.length ≤ 100000) (kx : Ss X (Γ.set q (.dat (.list ((xs.filter f).map h)))) rest κ) {spos : Pos}
    (ok : blkC N sc scope [(x, i)] = true := by decide +kernel) (hN0 : N[q]? = some x0 := by rfl) (hl0 : lclB sc x0 = true := by rfl) (hN : N[i]? = some x := by rfl) (hl : lclB (relS scope sc) x = true := by rfl)
    (hk : sc.kind = .function := by rfl) (hln : (p.line == pos.line) = true := by rfl) (hno : (scope.names.any fun (n, k) => n == x0 && (k == .local || k == .cell)) = false := by rfl) (hfs : ∀ x, foldedSetIterable iter X.env x = pure x := by intro _; rfl) :
    Ss X Γ (.Assign [.Name x0 p] (.ListComp elt [⟨.Name x px, iter, ifs, 0⟩] scope pos) spos :: rest) κ :=
  ss_cons (s_setLc (is := [i]) F xd q [(x, i)] ok xs enc hs hz f h (fun d => Γ.set i (.dat (enc d))) (by simp) (fun Y FY => pg_nmB FY i hN hl) (fun d _ => by
    have := tgd_name (K := K) (d := enc d) (Γ := wipeG Γ ([(x, i)].map (·.2))) i
    simpa [wipeG, List.set_set] using this) ht he hN0 hl0 kx hk hln hno hfs)
theorem setLcA {α : Type} (F : XF X P w K mg base N sc k) (xd : XD X) (q i : Nat) (xs : List α) (enc : α → PyData) {x0 x : Str} (hs : Src X Γ (.Name x px) iter (xs.map enc)) (h : α → PyData)
    (he : ∀ Y, XF Y P w K mg base N (relS scope sc) k → ∀ d ∈ xs, E Y (Γ.set i (.dat (enc d))) elt (h d))
    (hz : xs.length ≤ 100000) (kx : Ss X (Γ.set q (.dat (.list (xs.map h)))) rest κ) {spos : Pos}
    (ok : blkC N sc scope [(x, i)] = true := by decide +kernel) (hN0 : N[q]? = some x0 := by rfl) (hl0 : lclB sc x0 = true := by rfl) (hN : N[i]? = some x := by rfl) (hl : lclB (relS scope sc) x = true := by rfl)
    (hk : sc.kind = .function := by rfl) (hln : (p.line == pos.line) = true := by rfl) (hno : (scope.names.any fun (n, k) => n == x0 && (k == .local || k == .cell)) = false := by rfl) (hfs : ∀ x, foldedSetIterable iter X.env x = pure x := by intro _; rfl) :
    Ss X Γ (.Assign [.Name x0 p] (.ListComp elt [⟨.Name x px, iter, [], 0⟩] scope pos) spos :: rest) κ :=
  setLcN F xd q i xs enc hs (fun _ => true) h (fun Y FY d hd => .nil) (fun Y FY d hd _ => he Y FY d hd) hz (by rwa [List.filter_eq_self.mpr fun _ _ => rfl]) ok hN0 hl0 hN hl hk hln hno hfs
theorem setLcN2 {α : Type} (F : XF X P w K mg base N sc k) (xd : XD X) (q i j : Nat) (xs : List α) (ea eb : α → PyData) {x0 x y : Str} {cx pt} (hs : Src X Γ (.Tuple [.Name x px, .Name y py] cx pt) iter (xs.map fun a => .tuple [ea a, eb a])) (f : α → Bool) (h : α → PyData)
    (ht : ∀ Y, XF Y P w K mg base N (relS scope sc) k → ∀ d ∈ xs, Tis Y (((wipeG Γ [i, j]).set i (.dat (ea d))).set j (.dat (eb d))) ifs (f d)) (he : ∀ Y, XF Y P w K mg base N (relS scope sc) k → ∀ d ∈ xs, f d = true → E Y (((wipeG Γ [i, j]).set i (.dat (ea d))).set j (.dat (eb d))) elt (h d))
    (hz : xs.length ≤ 100000) (kx : Ss X (Γ.set q (.dat (.list ((xs.filter f).map h)))) rest κ) {spos : Pos}
    (ok : blkC N sc scope [(x, i), (y, j)] = true := by decide +kernel) (hN0 : N[q]? = some x0 := by rfl) (hl0 : lclB sc x0 = true := by rfl) (hN : N[i]? = some x := by rfl) (hl : lclB (relS scope sc) x = true := by rfl) (hN2 : N[j]? = some y := by rfl) (hl2 : lclB (relS scope sc) y = true := by rfl)
    (hk : sc.kind = .function := by rfl) (hln : (p.line == pos.line) = true := by rfl) (hno : (scope.names.any fun (n, k) => n == x0 && (k == .local || k == .cell)) = false := by rfl) (hfs : ∀ x, foldedSetIterable iter X.env x = pure x := by intro _; rfl) :
    Ss X Γ (.Assign [.Name x0 p] (.ListComp elt [⟨.Tuple [.Name x px, .Name y py] cx pt, iter, ifs, 0⟩] scope pos) spos :: rest) κ :=
  ss_cons (s_setLc (is := [i, j]) F xd q [(x, i), (y, j)] ok xs _ hs hz f h (fun d => ((wipeG Γ [i, j]).set i (.dat (ea d))).set j (.dat (eb d))) (by simp) (fun Y FY => pg2B FY i j hN hl hN2 hl2) (fun d hd => tgd2 rfl) ht he hN0 hl0 kx hk hln hno hfs)
/-- x = [elt for y in iter for z in t] -/
theorem setLc2T {α β : Type} (F : XF X P w K mg base N sc k) (xd : XD X) (q i j m : Nat) (xs : List α) (enc : α → PyData) (ys : List β) (enc1 : β → PyData) {x0 x y t : Str} (hs : Src X Γ (.Name x px) iter (xs.map enc)) (hz0 : xs.length ≤ 300) (hz : ys.length ≤ 300) (h : α → β → PyData)
    (hm : ∀ d ∈ xs, ((wipeG Γ [i, j]).set i (.dat (enc d)))[m]? = some (.dat (.tuple (ys.map enc1))))
    (hob : ∀ d ∈ xs, (((wipeG Γ [i, j]).set i (.dat (enc d))).all fun s => match s with | .ob _ => false | _ => true) = true)
    (he : ∀ Y, XF Y P w K mg base N (relS scope sc) k → ∀ d ∈ xs, ∀ e ∈ ys, E Y ((wipeG ((wipeG Γ [i, j]).set i (.dat (enc d))) [j]).set j (.dat (enc1 e))) elt (h d e))
    (kx : Ss X (Γ.set q (.dat (.list (xs.flatMap fun d => ys.map (h d))))) rest κ) {spos : Pos}
    (ok : blkC N sc scope [(x, i), (y, j)] = true := by decide +kernel) (hN0 : N[q]? = some x0 := by rfl) (hl0 : lclB sc x0 = true := by rfl) (hN : N[i]? = some x := by rfl) (hl : lclB (relS scope sc) x = true := by rfl) (hN2 : N[j]? = some y := by rfl) (hl2 : lclB (relS scope sc) y = true := by rfl) (hN3 : N[m]? = some t := by rfl) (hv3 : visB (relS scope sc) t = true := by rfl)
    (hd : (t == ("__debug__" : Str)) = false := by decide) (hcd : (t == ("__classdict__" : Str)) = false := by decide)
    (hk : sc.kind = .function := by rfl) (hln : (p.line == pos.line) = true := by rfl) (hno : (scope.names.any fun (n, k) => n == x0 && (k == .local || k == .cell)) = false := by rfl)
    (hfs : ∀ x, foldedSetIterable iter X.env x = pure x := by intro _; rfl) (hfs1 : ∀ env x, foldedSetIterable (.Name t pz) env x = pure x := by intro _ _; rfl) :
    Ss X Γ (.Assign [.Name x0 p] (.ListComp elt [⟨.Name x px, iter, [], 0⟩, ⟨.Name y py, .Name t pz, [], 0⟩] scope pos) spos :: rest) κ :=
  ss_cons (s_setLc2 (is := [i]) (js := [j]) F xd q [(x, i), (y, j)] [j] ok xs enc hs hz0 (fun _ => ys) enc1 (fun _ _ => hz) h (fun d => (wipeG Γ [i, j]).set i (.dat (enc d))) (fun d e => (wipeG ((wipeG Γ [i, j]).set i (.dat (enc d))) [j]).set j (.dat (enc1 e))) (by simp) (by simp) (by simp)
    (fun d hd => nob_of (hob d hd)) (fun Y FY => pg_nmB FY i hN hl) (fun d _ => tgd_name i) (iTup K (tVar m)) (fun Y FY => pi_vT FY m hN3 hv3 hd hcd) (fun d hd => evi_tup (evd_var (hm d hd))) (fun Y FY => pg_nmB FY j hN2 hl2) (fun d _ e _ => tgd_name j) he hN0 hl0 kx hk hln hno hfs hfs1)
/-- if c: x.append(e) -/
theorem when_app (F : XF X P w K mg base N sc k) (i : Nat) {x : Str} {apos cpos px p2 : Pos} (hc : T X Γ c v) (he : v = true → E X Γ e d) (h : Ss X (Γ.set i (.ob (oL X.K (ds ++ if v then [d] else [])))) rest κ) (hl : ds.length < 100000) (hN : N[i]? = some x := by rfl) (hv : visB sc x = true := by rfl) (hi : Γ[i]? = some (.ob (oL X.K ds)) := by rfl)
    (hd : (x == ("__debug__" : Str)) = false := by decide) (hcd : (x == ("__classdict__" : Str)) = false := by decide) (hs : starEach [e] X.env = (false, eval e X.env) :: starEach [] X.env := by rfl)
    (hline : (apos.endLine == cpos.line) = true := by rfl) (hsw : swapsWith (.Call (.Attribute (.Name x px) "append" apos) [e] [] cpos) none p2.line X.env = pure false := by rfl) : Ss X Γ (.If c [.Expr (.Call (.Attribute (.Name x px) "append" apos) [e] [] cpos) p2] [] pos :: rest) κ := by
  cases v with
  | true => exact when_ hc (fun _ => app F i (he rfl) (ss_nil h) hl hN hv hi hd hcd hs hline hsw) (fun h => by cases h)
  | false =>
    refine when_ hc (fun h => by cases h) (fun _ => ?_)
    have e : Γ.set i (.ob (oL X.K (ds ++ if false = true then [d] else []))) = Γ := by
      apply List.ext_getElem?
      intro j
      by_cases q : i = j
      · subst q
        rw [hi, List.getElem?_set_self (List.getElem?_eq_some_iff.mp hi).1]
        simp
      · rw [List.getElem?_set_ne q]
    rwa [e] at h
/-- all contexts of a block at once -/
def wiE (P : Program) (w : World) (K : PySem.W.Frag) (mg : Str → Option Value) (base : Heap) (N : List Str) (sc : Scope) (k : Nat) (e : Expr) : TI := fun σ H R => ∀ Y, XF Y P w K mg base N sc k → iList K (teS Y e) σ H R
theorem pi_wiE (F : XF X P w K mg base N sc k) : PI X tg e (wiE P w K mg base N sc k e) := ⟨fun pins s σ H R I h => (pi_list peS).run pins s σ H R I (by have := h X F; rwa [F.hK])⟩
theorem evi_wiE (h : ∀ Y, XF Y P w K mg base N sc k → E Y Γ e (.list ds)) : EvI K (wiE P w K mg base N sc k e) Γ ds := fun G0 H0 σ G H hA R hR Y FY => evi_list (K := K) (by have := h Y FY; unfold E at this; rwa [FY.hK] at this) G0 H0 σ G H hA R hR
/-- x = [elt for y in iter for z in e1], e1 a list -/
theorem setLc2E {α β : Type} (F : XF X P w K mg base N sc k) (xd : XD X) (q i j : Nat) (xs : List α) (enc : α → PyData) (ys : α → List β) (enc1 : β → PyData) {x0 x y : Str} {ie : Expr} (hs : Src X Γ (.Name x px) iter (xs.map enc)) (hz0 : xs.length ≤ 300) (hz : ∀ a ∈ xs, (ys a).length ≤ 300) (h : α → β → PyData)
    (hm : ∀ Y, XF Y P w K mg base N (relS scope sc) k → ∀ d ∈ xs, E Y ((wipeG Γ [i, j]).set i (.dat (enc d))) ie (.list ((ys d).map enc1)))
    (hob : ∀ d ∈ xs, (((wipeG Γ [i, j]).set i (.dat (enc d))).all fun s => match s with | .ob _ => false | _ => true) = true)
    (he : ∀ Y, XF Y P w K mg base N (relS scope sc) k → ∀ d ∈ xs, ∀ e ∈ ys d, E Y ((wipeG ((wipeG Γ [i, j]).set i (.dat (enc d))) [j]).set j (.dat (enc1 e))) elt (h d e))
    (kx : Ss X (Γ.set q (.dat (.list (xs.flatMap fun d => (ys d).map (h d))))) rest κ) {spos : Pos}
    (ok : blkC N sc scope [(x, i), (y, j)] = true := by decide +kernel) (hN0 : N[q]? = some x0 := by rfl) (hl0 : lclB sc x0 = true := by rfl) (hN : N[i]? = some x := by rfl) (hl : lclB (relS scope sc) x = true := by rfl) (hN2 : N[j]? = some y := by rfl) (hl2 : lclB (relS scope sc) y = true := by rfl)
    (hk : sc.kind = .function := by rfl) (hln : (p.line == pos.line) = true := by rfl) (hno : (scope.names.any fun (n, k) => n == x0 && (k == .local || k == .cell)) = false := by rfl)
    (hfs : ∀ x, foldedSetIterable iter X.env x = pure x := by intro _; rfl) (hfs1 : ∀ env x, foldedSetIterable ie env x = pure x := by intro _ _; rfl) :
    Ss X Γ (.Assign [.Name x0 p] (.ListComp elt [⟨.Name x px, iter, [], 0⟩, ⟨.Name y py, ie, [], 0⟩] scope pos) spos :: rest) κ :=
  ss_cons (s_setLc2 (is := [i]) (js := [j]) F xd q [(x, i), (y, j)] [j] ok xs enc hs hz0 ys enc1 hz h (fun d => (wipeG Γ [i, j]).set i (.dat (enc d))) (fun d e => (wipeG ((wipeG Γ [i, j]).set i (.dat (enc d))) [j]).set j (.dat (enc1 e))) (by simp) (by simp) (by simp)
    (fun d hd => nob_of (hob d hd)) (fun Y FY => pg_nmB FY i hN hl) (fun d _ => tgd_name i) (wiE P w K mg base N (relS scope sc) k ie) (fun Y FY => pi_wiE FY) (fun d hd => evi_wiE fun Y FY => hm Y FY d hd) (fun Y FY => pg_nmB FY j hN2 hl2) (fun d _ e _ => tgd_name j) he hN0 hl0 kx hk hln hno hfs hfs1)
/-- a for over x, (y, z) -/
theorem forN3 {α : Type} (F : XF X P w K mg base N sc k) (xd : XD X) (i j l : Nat) (xs : List α) (ea eb ec : α → PyData) {x y z : Str} {cx cx2 pt pt2} (hs : Src X Γ (.Tuple [.Name x px, .Tuple [.Name y py, .Name z pz] cx2 pt2] cx pt) iter (xs.map fun a => .tuple [ea a, .tuple [eb a, ec a]])) (Iv : Nat → List Sl → Prop) (h0 : Iv 0 Γ)
    (hb : ∀ n a Γ', xs[n]? = some a → Iv n Γ' → Ss X (((Γ'.set i (.dat (ea a))).set j (.dat (eb a))).set l (.dat (ec a))) body ⟨Iv (n + 1), κ.rt, fun Γ' => Ss X Γ' rest κ, Iv (n + 1)⟩) (hd : ∀ Γ', Iv xs.length Γ' → Ss X Γ' rest κ) (hN : N[i]? = some x := by rfl) (hl : locB sc x = true := by rfl) (hN2 : N[j]? = some y := by rfl) (hl2 : locB sc y = true := by rfl) (hN3 : N[l]? = some z := by rfl) (hl3 : locB sc z = true := by rfl)
    (hfs : ∀ x, foldedSetIterable iter X.env x = pure x := by intro _; rfl) : Ss X Γ (.For (.Tuple [.Name x px, .Tuple [.Name y py, .Name z pz] cx2 pt2] cx pt) iter body [] pos :: rest) κ :=
  ss_cons (s_for (g := gTup K 2 (gCons (gName i) (gCons (gTup K 2 (gCons (gName j) (gCons (gName l) gNil))) gNil))) F hs (by
    have := pg_tup (X := X) (n := 2) (pos := pt) (k := cx) F.calm (pgs_cons (pg_nm (pos := px) F xd i hN hl) (pgs_cons (pg_tup (X := X) (n := 2) (pos := pt2) (k := cx2) F.calm (pgs_cons (pg_nm (pos := py) F xd j hN2 hl2) (pgs_cons (pg_nm (pos := pz) F xd l hN3 hl3) pgs_nil))) pgs_nil))
    rwa [F.hK] at this) Iv h0 (fun n d Γ' h1 h2 => by
    rw [List.getElem?_map] at h1
    cases q : xs[n]? with
    | none => rw [q] at h1; cases h1
    | some a =>
      rw [q] at h1
      cases h1
      exact ⟨_, [i] ++ (([j] ++ ([l] ++ [])) ++ []), tgd_tup (tgsd_cons (tgd_name i) (tgsd_cons (tgd_tup (tgsd_cons (tgd_name j) (tgsd_cons (tgd_name l) tgsd_nil)) rfl) tgsd_nil)) rfl, hb n a Γ' q h2⟩) (by rw [List.length_map]; exact hd) hfs)
end
end Z
set_option Elab.async false
set_option linter.all false
set_option maxRecDepth 100000
set_option maxHeartbeats 4000000
namespace Z
open PySem PySem.Spec PyProof.Rows L2 Evl
/-! ### ways -/
def negS (acc : List (List Tm)) (r : Rl) : List (List Tm) := acc.flatMap fun w => r.ts.map fun t => w ++ [turnM t]
def negW (p : List Rl) : List (List Tm) := p.foldl negS [[]]
def waysM (p : List Rl) (i : Int) : List (List Tm) := if 0 ≤ i then match p[i.toNat]? with
  | some r => (negW (p.take i.toNat)).map (· ++ r.ts)
  | none => negW p
  else negW p
def dW (w : List Tm) : PyData := .list (w.map dT)
/-- bounds: at most 4 rules of at most 3 terms -/
structure small (p : List Rl) : Prop where
  r : p.length ≤ 4
  t : ∀ r ∈ p, r.ts.length ≤ 3
theorem negS_len (acc : List (List Tm)) (r : Rl) (h : r.ts.length ≤ 3) : (negS acc r).length ≤ acc.length * 3 := by
  unfold negS
  rw [List.length_flatMap]
  simp only [List.length_map]
  rw [List.map_const', List.sum_replicate_nat]
  exact Nat.mul_le_mul_left _ h
theorem negs_len : ∀ (p : List Rl) (acc : List (List Tm)), (∀ r ∈ p, r.ts.length ≤ 3) → (p.foldl negS acc).length ≤ acc.length * 3 ^ p.length
  | [], acc, _ => by simp
  | r :: p, acc, h => by
    have h1 := negs_len p (negS acc r) fun r' hr => h r' (by simp [hr])
    have h2 := negS_len acc r (h r (by simp))
    simp only [List.foldl_cons, List.length_cons]
    rw [Nat.pow_succ]
    calc _ ≤ (negS acc r).length * 3 ^ p.length := h1
      _ ≤ (acc.length * 3) * 3 ^ p.length := Nat.mul_le_mul_right _ h2
      _ = acc.length * (3 ^ p.length * 3) := by rw [Nat.mul_assoc, Nat.mul_comm 3]
theorem negs_le {p : List Rl} (h : small p) (n : Nat) : ((p.take n).foldl negS [[]]).length ≤ 81 := by
  have h1 := negs_len (p.take n) [[]] fun r hr => h.t r (List.mem_of_mem_take hr)
  have h2 : (p.take n).length ≤ 4 := Nat.le_trans (by simp; omega) h.r
  have h3 : 3 ^ (p.take n).length ≤ 3 ^ 4 := Nat.pow_le_pow_right (by omega) h2
  simp at h1
  simp at h3
  omega
theorem negs_each : ∀ (p : List Rl) (acc : List (List Tm)) (c : Nat), (∀ w ∈ acc, w.length = c) → ∀ w ∈ p.foldl negS acc, w.length = c + p.length
  | [], acc, c, h, w, hw => by simpa using h w hw
  | r :: p, acc, c, h, w, hw => by
    have := negs_each p (negS acc r) (c + 1) (fun w' hw' => by
      unfold negS at hw'
      simp only [List.mem_flatMap, List.mem_map] at hw'
      obtain ⟨w0, h0, t, _, rfl⟩ := hw'
      simp [h w0 h0]) w hw
    simp only [List.length_cons]
    omega
theorem negs_in {p : List Rl} (h : small p) (n : Nat) : ∀ w ∈ (p.take n).foldl negS [[]], w.length ≤ 4 := fun w hw => by
  have := negs_each (p.take n) [[]] 0 (by simp) w hw
  have h2 : (p.take n).length ≤ 4 := Nat.le_trans (by simp; omega) h.r
  omega
section
variable {P : Program} {w : World} {K : PySem.W.Frag} {mg : Str → Option Value} {base : Heap}
def d_ways : List PyData → PyData → Prop := fun ds r => ∃ (p : List Rl) (i : Int), small p ∧ ds = [dP p, .int i] ∧ r = .list ((waysM p i).map dW)
theorem w_ways {f : Addr} {fd : FuncData} (Fn : FnP K "ways" s_ways f fd) (hm : mg "ways" = some (.ref f)) (bn : BN mg) (f1 : FnF P w K mg base "turned" 1 d_turned) : FnF P w K mg base "ways" 2 d_ways := by
  refine fn_mk Fn hm c_ways (fun ds r ⟨p, i, _, h, _⟩ => by rw [h]; rfl) (fun _ _ _ _ _ _ us hl => match us, hl with | [_, _], _ => rfl) fun X F xd ds r ⟨p, i, sm, h, hr⟩ => ?_
  subst h hr
  refine set_ F xd 2 (li1 li0) ?_
  refine forN3 F xd 3 4 5 p.zipIdx (fun a => .int (a.2 : Nat)) (fun a => .str a.1.v.str) (fun a => .tuple (a.1.ts.map dT)) ?_ (fun n Γ' => (∀ m : Nat, m < n → (m : Int) ≠ i) ∧ ∃ s3 s4 s5 s6 s7, Γ' = [.dat (dP p), .dat (.int i), .dat (.list (((p.take n).foldl negS [[]]).map dW)), s3, s4, s5, s6, s7]) ⟨fun _ h => by omega, .un, .un, .un, .un, .un, rfl⟩ ?_ ?_
  · have e : (p.zipIdx.map fun a => PyData.tuple [.int (a.2 : Nat), .tuple [.str a.1.v.str, .tuple (a.1.ts.map dT)]]) = (p.map dR).zipIdx.map fun p => .tuple [.int (p.2 : Nat), p.1] := by
      rw [List.zipIdx_map, List.map_map]
      rfl
    rw [e]
    exact src_enumT F bn (nm F 0)
  · rintro n ⟨r, m⟩ Γ' ha ⟨hne, s3, s4, s5, s6, s7, rfl⟩
    have hr : p[n]? = some r ∧ n = m := by
      rw [List.getElem?_zipIdx] at ha
      cases q : p[n]? with
      | none => rw [q] at ha; simp at ha
      | some r' =>
        rw [q] at ha
        simp at ha
        exact ⟨by rw [ha.1], ha.2⟩
    obtain ⟨hr, rfl⟩ := hr
    have hmem : r ∈ p := List.mem_of_getElem? hr
    refine when_ (t_eq (nm F 3) (nm F 1) (.int _ _)) (fun h => ?_) (fun h => ?_)
    · have h' : (n : Int) = i := of_decide_eq_true h
      subst h'
      refine ret (lcA F 6 ((p.take n).foldl negS [[]]) dW (src_list (nm F 2)) (fun w => dW (w ++ r.ts)) (fun Y FY w hw => ?_) (by have := negs_le sm n; omega)) ?_
      · have e : dW (w ++ r.ts) = .list (w.map dT ++ (r.ts.map dT ++ [])) := by simp [dW]
        rw [e]
        have := negs_in sm n w hw
        have := sm.t r hmem
        exact e_list (as_star (nm FY 6) rfl (as_star (nm FY 5) rfl as_nil)) (by simp; omega)
      · simp [waysM, hr, negW, List.map_map, Function.comp_def]
    · have h' : (n : Int) ≠ i := of_decide_eq_false h
      refine setLc2T F xd 2 6 7 5 ((p.take n).foldl negS [[]]) dW r.ts dT (src_list (nm F 2)) (by have := negs_le sm n; omega) (by have := sm.t r hmem; omega) (fun w t => dW (w ++ [turnM t])) (fun _ _ => rfl) (fun _ _ => rfl) (fun Y FY w hw t ht => ?_) (ss_nil ?_)
      · have e : dW (w ++ [turnM t]) = .list (w.map dT ++ [dT (turnM t)]) := by simp [dW]
        rw [e]
        have := negs_in sm n w hw
        exact e_list (as_star (nm FY 6) rfl (as_cons (ca1 FY f1 (nm FY 7) ⟨t, rfl, rfl⟩) as_nil)) (by simp; omega)
      · refine ⟨fun m hm => ?_, .dat (.int n), .dat (.str r.v.str), .dat (.tuple (r.ts.map dT)), s6, s7, ?_⟩
        · by_cases q : m = n
          · subst q; exact h'
          · exact hne m (by omega)
        rw [take_fold negS _ hr]
        simp [negS, List.map_flatMap, List.map_map, Function.comp_def]
  · rintro Γ' ⟨hne, s3, s4, s5, s6, s7, rfl⟩
    have e : (waysM p i) = (p.take p.zipIdx.length).foldl negS [[]] := by
      unfold waysM negW
      rw [List.length_zipIdx, List.take_length]
      split
      · rename_i h0
        cases q : p[i.toNat]? with
        | none => rfl
        | some r =>
          have hl := (List.getElem?_eq_some_iff.mp q).1
          exact absurd (show ((i.toNat : Nat) : Int) = i by omega) (hne i.toNat (by rw [List.length_zipIdx]; exact hl))
      · rfl
    rw [e]
    exact ret (nm F 2) rfl
end
end Z
set_option Elab.async false
set_option linter.all false
set_option maxRecDepth 100000
set_option maxHeartbeats 4000000
namespace Z
open PySem PySem.Spec PyProof.Rows L2 Evl
theorem fm_take_len {α β : Type} (f : α → List β) (c : Nat) (h : ∀ a, (f a).length ≤ c) : ∀ (l : List α) (n : Nat), ((l.take n).flatMap f).length ≤ c * n
  | [], n => by simp
  | a :: l, 0 => by simp
  | a :: l, n + 1 => by
    have h1 := fm_take_len f c h l n
    have h2 := h a
    simp only [List.take_succ_cons, List.flatMap_cons, List.length_append]
    rw [Nat.mul_add]
    omega
theorem fm_take {α β : Type} (f : α → List β) {l : List α} {n : Nat} {a : α} (h : l[n]? = some a) : (l.take (n + 1)).flatMap f = (l.take n).flatMap f ++ f a := by
  rw [List.take_add_one, h, Option.toList_some, List.flatMap_append, List.flatMap_cons, List.flatMap_nil, List.append_nil]
theorem take_snoc {α : Type} {l : List α} {n : Nat} {a : α} (h : l[n]? = some a) : l.take (n + 1) = l.take n ++ [a] := by
  rw [List.take_add_one, h, Option.toList_some]
/-! ### kind_choices -/
def kL4 : List Kd := [.no, .still, .picture, .film, .sheet]
def kks (f : Kd) (b1 b2 : Bool) : List Kd := ((if f = .no then [] else [f]) ++ if b1 then [.folio] else []) ++ if b2 then [.crate] else []
def kcF (f : Kd) (b1 b2 : Bool) : List Kd := if f ≠ .no ∨ kks f b1 b2 = [] then [f] else kks f b1 b2
def kcS (f : Kd) (b : Bool × Bool) : List (Kd × List Kd) := (kcF f b.1 b.2).map fun k => (k, kks f b.1 b.2)
def b4 : List (Bool × Bool) := [(false, false), (true, false), (false, true), (true, true)]
def kcG (f : Kd) : List (Kd × List Kd) := b4.flatMap (kcS f)
def kcM : List (Kd × List Kd) := kL4.flatMap kcG
def dKK (a : Kd × List Kd) : PyData := .tuple [.str a.1.str, dKs a.2]
theorem kks_len (f : Kd) (b1 b2 : Bool) : (kks f b1 b2).length ≤ 3 := by cases f <;> cases b1 <;> cases b2 <;> decide
theorem kcS_len (f : Kd) (b : Bool × Bool) : (kcS f b).length ≤ 3 := by
  unfold kcS kcF
  have := kks_len f b.1 b.2
  split <;> simp <;> omega
theorem kcG_len (f : Kd) : (kcG f).length ≤ 12 := by
  have := fm_take_len (kcS f) 3 (kcS_len f) b4 4
  exact this
theorem bits4 (n : Nat) (h : n < 4) : b4[n]? = some (decide (Builtin.bitAnd (0 + (n : Int)) 1 = 1), decide (Builtin.bitAnd (0 + (n : Int)) 2 = 2)) := by
  match n, h with
  | 0, _ => decide +kernel
  | 1, _ => decide +kernel
  | 2, _ => decide +kernel
  | 3, _ => decide +kernel
theorem cut4 : (.str "" :: (cutD ((["still", "picture", "film", "sheet", "folio", "crate"] : List Str).map PyData.str) none (some 4) ++ [])) = kL4.map fun k => PyData.str k.str := by
  have : HT.sIx ((["still", "picture", "film", "sheet", "folio", "crate"] : List Str).map PyData.str).length ((["still", "picture", "film", "sheet", "folio", "crate"] : List Str).map PyData.str).length (some 4) = 4 := by decide +kernel
  unfold cutD
  rw [this]
  rfl
section
variable {P : Program} {w : World} {K : PySem.W.Frag} {mg : Str → Option Value} {base : Heap}
def d_kind_choices : List PyData → PyData → Prop := fun ds r => ds = [] ∧ r = .list (kcM.map dKK)
theorem kno (f : Kd) : decide (f.str = "") = decide (f = .no) := by cases f <;> decide +kernel
theorem w_kind_choices {f : Addr} {fd : FuncData} (Fn : FnP K "kind_choices" s_kind_choices f fd) (hm : mg "kind_choices" = some (.ref f)) (bn : BN mg) (cg : CG K w mg) : FnF P w K mg base "kind_choices" 1 d_kind_choices := by
  refine fn_mk Fn hm c_kind_choices (fun ds r ⟨h, _⟩ => by rw [h]; rfl) (fun _ _ _ _ _ _ us hl => match us, hl with | [], _ => rfl) fun X F xd ds r ⟨h, hr⟩ => ?_
  subst h hr
  refine setF F xd 0 (ef_list as_nil (by decide)) ?_
  refine forN F xd 1 kL4 (fun k => .str k.str) ?_ (fun n Γ' => ∃ s1 s2 s3 s4 s5, Γ' = [.ob (oL X.K (((kL4.take n).flatMap kcG).map dKK)), s1, s2, s3, s4, s5]) ⟨.un, .un, .un, .un, .un, rfl⟩ ?_ ?_
  · rw [← cut4]
    exact src_tup (e_tup (as_cons e_str (as_star (e_slT (gt F cg.kinds) .none (.some e_int)) rfl as_nil)) (by decide +kernel))
  · rintro n f Γ' hf ⟨s1, s2, s3, s4, s5, rfl⟩
    have l1 := fm_take_len kcG 12 kcG_len kL4 n
    have hn : n < 5 := (List.getElem?_eq_some_iff.mp hf).1
    refine forN F xd 2 (List.range 4) (fun (i : Nat) => .int (0 + (i : Int))) (src_rng1 F bn e_int (by decide) (by decide) rfl) (fun m Γ' => ∃ s2 s3 s4 s5, Γ' = [.ob (oL X.K (((kL4.take n).flatMap kcG ++ (b4.take m).flatMap (kcS f)).map dKK)), .dat (.str f.str), s2, s3, s4, s5]) ⟨s2, s3, s4, s5, by simp⟩ ?_ ?_
    · rintro m i Γ' hi ⟨s2, s3, s4, s5, rfl⟩
      have hm' : m < 4 := by have := (List.getElem?_eq_some_iff.mp hi).1; simpa using this
      have him : i = m := by
        rw [List.getElem?_range (by simpa using hm')] at hi
        exact (Option.some.inj hi).symm
      subst him
      have l2 := fm_take_len (kcS f) 3 (kcS_len f) b4 i
      have hb := bits4 i hm'
      generalize hb1 : decide (Builtin.bitAnd (0 + (i : Int)) 1 = 1) = b1 at hb
      generalize hb2 : decide (Builtin.bitAnd (0 + (i : Int)) 2 = 2) = b2 at hb
      generalize hA : (kL4.take n).flatMap kcG ++ (b4.take i).flatMap (kcS f) = acc
      have hacc : acc.length ≤ 100 := by rw [← hA, List.length_append]; omega
      have hnx : (kL4.take n).flatMap kcG ++ (b4.take (i + 1)).flatMap (kcS f) = acc ++ kcS f (b1, b2) := by rw [fm_take _ hb, ← hA, List.append_assoc]
      rw [hnx]
      refine setF F xd 3 (ds := (if f = .no then [] else [f]).map fun k => .str k.str) (ef_if (t_ne (nm F 1) e_str (.str _ _)) (fun h => ?_) (fun h => ?_)) ?_
      · rw [kno] at h
        have : ¬ f = .no := by simpa using h
        rw [if_neg this]
        exact ef_list (as_cons (nm F 1) as_nil) (by simp)
      · rw [kno] at h
        have : f = .no := by simpa using h
        rw [if_pos this]
        exact ef_list as_nil (by simp)
      have lk := kks_len f b1 b2
      refine when_app F 3 (ds := (if f = .no then [] else [f]).map fun k => .str k.str) (v := b1) (d := .str "folio") (by rw [← hb1]; exact t_eq (e_and_ (nm F 2) e_int) e_int (.int _ _)) (fun _ => e_str) ?_ (by simp; split <;> simp)
      refine when_app F 3 (ds := ((if f = .no then [] else [f]).map fun k => PyData.str k.str) ++ if b1 = true then [.str "folio"] else []) (v := b2) (d := .str "crate") (by rw [← hb2]; exact t_eq (e_and_ (nm F 2) e_int) e_int (.int _ _)) (fun _ => e_str) ?_ (by simp; split <;> split <;> simp)
      have ek : (((if f = .no then [] else [f]).map fun k => PyData.str k.str) ++ (if b1 = true then [.str "folio"] else [])) ++ (if b2 = true then [.str "crate"] else []) = (kks f b1 b2).map fun k => PyData.str k.str := by
        unfold kks
        rw [List.map_append, List.map_append]
        cases b1 <;> cases b2 <;> rfl
      refine ss_freeze (i := 3) rfl ?_
      simp only [List.set_cons_succ, List.set_cons_zero]
      rw [ek]
      refine set_ F xd 4 (d := .list ((kcF f b1 b2).map fun k => .str k.str)) (e_if (v := decide (f ≠ .no) || decide (kks f b1 b2 = [])) (t_or2 ?_ fun h => ?_) (fun h => ?_) (fun h => ?_)) ?_
      · have := t_ne (X := X) (Γ := [.ob (oL X.K (acc.map dKK)), .dat (.str f.str), .dat (.int (0 + (i : Int))), .dat (.list ((kks f b1 b2).map fun k => .str k.str)), s4, s5]) (pos := ⟨145, 31, 145, 42⟩) (nm F 1 (x := "first") (pos := ⟨145, 31, 145, 36⟩)) (e_str (x := "") (j := 0) (pos := ⟨145, 40, 145, 42⟩)) (.str _ _)
        rw [kno, ← decide_not] at this
        exact this
      · have e : PyData.eqv (.list ((kks f b1 b2).map fun k => .str k.str)) (.list []) = decide (kks f b1 b2 = []) := by
          cases kks f b1 b2 <;> simp [PyData.eqv, PyData.eqvAll]
        rw [← e]
        exact t_eqD F (nm F 3) (e_list as_nil (by decide)) (by show noscrs _ = true; exact noscrs_map (fun _ => rfl) _) rfl (shp_shaped (shp_list (n := 0) _ fun _ _ => shp_kd _)) rfl
      · have e : kcF f b1 b2 = [f] := by
          unfold kcF
          rw [if_pos (by simpa using h)]
        rw [e]
        exact li1 (nm F 1)
      · have e : kcF f b1 b2 = kks f b1 b2 := by
          unfold kcF
          rw [if_neg (by simpa using h)]
        rw [e]
        exact nm F 3
      have lc : (kcF f b1 b2).length ≤ 3 := by
        have := kcS_len f (b1, b2)
        simpa [kcS] using this
      refine forN F xd 5 (kcF f b1 b2) (fun k => .str k.str) (src_list (nm F 4)) (fun j Γ' => ∃ s5, Γ' = [.ob (oL X.K ((acc ++ ((kcF f b1 b2).take j).map fun k => (k, kks f b1 b2)).map dKK)), .dat (.str f.str), .dat (.int (0 + (i : Int))), .dat (.list ((kks f b1 b2).map fun k => .str k.str)), .dat (.list ((kcF f b1 b2).map fun k => .str k.str)), s5]) ⟨s5, by simp⟩ ?_ ?_
      · rintro j k Γ' hk ⟨s5, rfl⟩
        have hj := (List.getElem?_eq_some_iff.mp hk).1
        refine app F 0 (ds := (acc ++ ((kcF f b1 b2).take j).map fun k => (k, kks f b1 b2)).map dKK) (tu2 (nm F 5) (e_tupleL F bn (nm F 3) rfl)) (ss_nil ⟨.dat (.str k.str), ?_⟩) (by simp; omega)
        rw [take_snoc hk]
        simp [dKK, dKs]
      · rintro Γ' ⟨s5, rfl⟩
        rw [List.take_length]
        exact ss_nil ⟨_, _, _, _, rfl⟩
    · rintro Γ' ⟨s2, s3, s4, s5, rfl⟩
      refine ss_nil ⟨.dat (.str f.str), s2, s3, s4, s5, ?_⟩
      rw [fm_take _ hf]
      rfl
  · rintro Γ' ⟨s1, s2, s3, s4, s5, rfl⟩
    exact ss_freeze (i := 0) rfl (ret (nm F 0) rfl)
end
end Z
set_option Elab.async false
set_option linter.all false
set_option maxRecDepth 100000
set_option maxHeartbeats 4000000
namespace Z
open PySem PySem.Spec PyProof.Rows L2 Evl
/-! ### numbers_for -/
def putIf (gr : Int) (ks : List Int) (x : Int) : List Int := if 0 ≤ x ∧ x ≤ gr then putI ks x else ks
def numS (g : NF) (gr : Int) (ks : List Int) (t : Tm) : List Int := match t.body with
  | .num f _ n => if f = g then [n - 1, n, n + 1].foldl (putIf gr) ks else ks
  | _ => ks
def numK (ts : List Tm) (g : NF) (gr : Int) : List Int := ts.foldl (numS g gr) (putI (putI [] 0) gr)
def numsM (ts : List Tm) (g : NF) (gr : Int) : List Int := (numK ts g gr).mergeSort (fun a b => decide (a ≤ b))
theorem putIf_len (gr : Int) (ks : List Int) (x : Int) : (putIf gr ks x).length ≤ ks.length + 1 := by
  unfold putIf
  split
  · exact putI_len
  · omega
theorem putIfs_len (gr : Int) (l ks : List Int) : (l.foldl (putIf gr) ks).length ≤ ks.length + l.length := by
  have := fold_len (putIf gr) (fun _ => 1) (putIf_len gr) l ks
  rwa [sum_ones] at this
theorem numS_len (g : NF) (gr : Int) (ks : List Int) (t : Tm) : (numS g gr ks t).length ≤ ks.length + 3 := by
  unfold numS
  split
  · split
    · exact putIfs_len gr [_, _, _] ks
    · omega
  · omega
theorem sum_const {α : Type} (c : Nat) : ∀ l : List α, (l.map fun _ => c).sum = c * l.length
  | [] => rfl
  | a :: l => by
    simp only [List.map_cons, List.sum_cons, List.length_cons, sum_const c l, Nat.mul_add]
    omega
theorem numK_len (ts : List Tm) (g : NF) (gr : Int) : (numK ts g gr).length ≤ 2 + 3 * ts.length := by
  have h := fold_len (numS g gr) (fun _ => 3) (numS_len g gr) ts (putI (putI [] 0) gr)
  rw [sum_const] at h
  have h1 := putI_len (ks := putI [] 0) (k := gr)
  have h2 := putI_len (ks := []) (k := 0)
  unfold numK
  simp at h2
  omega
theorem nfd (f g : NF) : decide (f.str = g.str) = decide (f = g) := by cases f <;> cases g <;> decide +kernel
theorem nf_ne (g : NF) (b : Bd) (h : ∀ f s n, b ≠ .num f s n) : ¬ b.word = g.str := by
  cases b with
  | num f s n => exact absurd rfl (h f s n)
  | isk k => show ¬ ("is" : Str) = g.str; cases g <;> decide +kernel
  | could k => show ¬ ("could" : Str) = g.str; cases g <;> decide +kernel
  | act k => show ¬ ("act" : Str) = g.str; cases g <;> decide +kernel
  | nam k => show ¬ ("name" : Str) = g.str; cases g <;> decide +kernel
section
variable {P : Program} {w : World} {K : PySem.W.Frag} {mg : Str → Option Value} {base : Heap}
def d_numbers_for : List PyData → PyData → Prop := fun ds r => ∃ (ts : List Tm) (g : NF) (gr : Int), ts.length ≤ 20 ∧ ds = [.list (ts.map dT), .str g.str, .int gr] ∧ r = .list ((numsM ts g gr).map .int)
theorem w_numbers_for {f : Addr} {fd : FuncData} (Fn : FnP K "numbers_for" s_numbers_for f fd) (hm : mg "numbers_for" = some (.ref f)) (bn : BN mg) : FnF P w K mg base "numbers_for" 1 d_numbers_for := by
  refine fn_mk Fn hm c_numbers_for (fun ds r ⟨_, _, _, _, h, _⟩ => by rw [h]; rfl) (fun _ _ _ _ _ _ us hl => match us, hl with | [_, _, _], _ => rfl) fun X F xd ds r ⟨ts, g, gr, hl, h, hr⟩ => ?_
  subst h hr
  refine setI2 F xd 3 e_int (nm F 2) ?_
  refine forN2 F xd 4 5 ts (fun t => .bool t.neg) (fun t => dB t.body) (src_list (ds := ts.map dT) (nm F 0)) (fun n Γ' => ∃ s4 s5 s6, Γ' = [.dat (.list (ts.map dT)), .dat (.str g.str), .dat (.int gr), .ob (oI ((ts.take n).foldl (numS g gr) (putI (putI [] 0) gr))), s4, s5, s6]) ⟨.un, .un, .un, rfl⟩ ?_ ?_
  · rintro n t Γ' ht ⟨s4, s5, s6, rfl⟩
    have hb : ((ts.take n).foldl (numS g gr) (putI (putI [] 0) gr)).length ≤ 60 := by
      have hn := (List.getElem?_eq_some_iff.mp ht).1
      have := numK_len (ts.take n) g gr
      unfold numK at this
      rw [List.length_take] at this
      omega
    rw [take_fold (numS g gr) _ ht]
    generalize (ts.take n).foldl (numS g gr) (putI (putI [] 0) gr) = ks at hb ⊢
    have l3 := numS_len g gr ks t
    obtain ⟨ng, b⟩ := t
    by_cases hnum : ∃ f s m, b = .num f s m
    · obtain ⟨f, s, m, rfl⟩ := hnum
      have eb : ∀ {pos s3 s6'}, E X [.dat (.list (ts.map dT)), .dat (.str g.str), .dat (.int gr), s3, .dat (.bool ng), .dat (dB (.num f s m)), s6'] (.Name "body" pos) (.tuple [.str f.str, .str s.str, .int m]) := fun {pos s3 s6'} => nm F 5
      refine when_ (t_eq (e_ixT eb e_int rfl) (nm F 1) (.str _ _)) (fun h => ?_) (fun h => ?_)
      · rw [nfd] at h
        have hfg : f = g := of_decide_eq_true h
        subst hfg
        have e : numS f gr ks ⟨ng, .num f s m⟩ = [m - 1, m, m + 1].foldl (putIf gr) ks := by simp [numS]
        rw [e]
        refine forN F xd 6 [m - 1, m, m + 1] .int (src_tup (tu3 (e_sub (e_ixT eb e_int rfl) e_int) (e_ixT eb e_int rfl) (e_add (e_ixT eb e_int rfl) e_int))) (fun j Γ' => ∃ s6, Γ' = [.dat (.list (ts.map dT)), .dat (.str f.str), .dat (.int gr), .ob (oI (([m - 1, m, m + 1].take j).foldl (putIf gr) ks)), .dat (.bool ng), .dat (dB (.num f s m)), s6]) ⟨s6, rfl⟩ ?_ ?_
        · rintro j x Γ' hx ⟨s6, rfl⟩
          rw [take_fold (putIf gr) _ hx]
          have hj : j < 3 := (List.getElem?_eq_some_iff.mp hx).1
          have hl2 := putIfs_len gr ([m - 1, m, m + 1].take j) ks
          rw [List.length_take] at hl2
          generalize ([m - 1, m, m + 1].take j).foldl (putIf gr) ks = ks2 at hl2 ⊢
          refine when_ (t_chain_le e_int (nm F 6) (nm F 2)) (fun h => ?_) (fun h => ?_)
          · have : putIf gr ks2 x = putI ks2 x := by simp at h; simp [putIf, h]
            rw [this]
            exact setI F 3 (nm F 6) rfl (by omega) (ss_nil (ss_nil ⟨_, rfl⟩))
          · have : putIf gr ks2 x = ks2 := by simp at h; unfold putIf; rw [if_neg]; rintro ⟨h1, h2⟩; have := h h1; omega
            rw [this]
            exact ss_nil ⟨_, rfl⟩
        · rintro Γ' ⟨s6, rfl⟩
          rw [List.take_of_length_le (by simp)]
          exact ss_nil (ss_nil ⟨_, _, _, rfl⟩)
      · rw [nfd] at h
        have hfg : ¬ f = g := of_decide_eq_false h
        have e : numS g gr ks ⟨ng, .num f s m⟩ = ks := by simp [numS, hfg]
        rw [e]
        exact ss_nil ⟨_, _, _, rfl⟩
    · have hw := nf_ne g b (fun f s m e => hnum ⟨f, s, m, e⟩)
      have e : numS g gr ks ⟨ng, b⟩ = ks := by
        cases b with
        | num f s m => exact absurd ⟨f, s, m, rfl⟩ hnum
        | _ => rfl
      rw [e]
      obtain ⟨x, rest, hb'⟩ := dB_shape b
      rw [hb']
      exact when_ (v := false) (t_cast (t_eq (e_ixT (nm F 5) e_int at0) (nm F 1) (.str _ _)) (decide_eq_false hw)) (fun h => by cases h) (fun _ => ss_nil ⟨_, _, _, rfl⟩)
  · rintro Γ' ⟨s4, s5, s6, rfl⟩
    rw [List.take_length]
    exact ret (e_sortedI F bn 3 (ks := numK ts g gr) (ms := numsM ts g gr) rfl (by have := numK_len ts g gr; omega) (fun l h1 h2 => sorted_one (h1.trans (List.mergeSort_perm _ _).symm) h2 (by
      have := List.pairwise_mergeSort (le := fun a b : Int => decide (a ≤ b)) (fun a b c h1 h2 => by simp at *; omega) (fun a b => by simp; omega) (numK ts g gr)
      exact this.imp fun h => by simpa using h))) rfl
end
end Z
set_option Elab.async false
set_option linter.all false
set_option maxRecDepth 100000
set_option maxHeartbeats 4000000
namespace Z
open PySem PySem.Spec PyProof.Rows L2 Evl
/-! ### finding -/
theorem find_at {α : Type} {q : α → Bool} : ∀ {xs : List α} {n : Nat} {a : α}, xs[n]? = some a → (∀ b ∈ xs.take n, q b = false) → q a = true → xs.find? q = some a
  | [], n, a, h, _, _ => by simp at h
  | x :: xs, 0, a, h, _, hq => by
    simp at h
    subst h
    simp [hq]
  | x :: xs, n + 1, a, h, h1, hq => by
    have hx := h1 x (by simp)
    rw [List.find?_cons, hx]
    exact find_at (n := n) (by simpa using h) (fun b hb => h1 b (by simp [hb])) hq
theorem find_no {α : Type} {q : α → Bool} {xs : List α} (h : ∀ b ∈ xs.take xs.length, q b = false) : xs.find? q = none := by
  rw [List.take_length] at h
  rw [List.find?_eq_none]
  intro x hx
  rw [h x hx]
  exact Bool.false_ne_true
theorem find_step {α : Type} {q : α → Bool} {xs : List α} {n : Nat} {a : α} (h : xs[n]? = some a) (h1 : ∀ b ∈ xs.take n, q b = false) (hq : q a = false) : ∀ b ∈ xs.take (n + 1), q b = false := fun b hb => by
  rw [take_snoc h, List.mem_append] at hb
  rcases hb with hb | hb
  · exact h1 b hb
  · simp at hb
    rw [hb]
    exact hq
/-! ### shapes of terms -/
theorem shp_tups {n : Nat} (ds : List PyData) (h : ∀ d ∈ ds, shp n d) : shp (n + 1) (.tuple ds) := by
  have := shp_tuple (f := id) ds h
  rwa [List.map_id] at this
theorem shp_dB (b : Bd) : shp 2 (dB b) := by
  cases b with
  | num f s m => exact shp_mono (shp_tups (n := 0) _ (by
      intro d hd
      simp only [List.mem_cons, List.not_mem_nil, or_false] at hd
      rcases hd with rfl | rfl | rfl
      · exact shp_str _ (by cases f <;> decide +kernel)
      · exact shp_str _ (by cases s <;> decide +kernel)
      · exact shp_int _)) (by omega)
  | isk k => exact shp_mono (shp_tups (n := 0) _ (by
      intro d hd
      simp only [List.mem_cons, List.not_mem_nil, or_false] at hd
      rcases hd with rfl | rfl
      · exact shp_str _ (by decide +kernel)
      · exact shp_kd _)) (by omega)
  | could k => exact shp_mono (shp_tups (n := 0) _ (by
      intro d hd
      simp only [List.mem_cons, List.not_mem_nil, or_false] at hd
      rcases hd with rfl | rfl
      · exact shp_str _ (by decide +kernel)
      · exact shp_kd _)) (by omega)
  | act k => exact shp_mono (shp_tups (n := 0) _ (by
      intro d hd
      simp only [List.mem_cons, List.not_mem_nil, or_false] at hd
      rcases hd with rfl | rfl
      · exact shp_str _ (by decide +kernel)
      · exact shp_ac _)) (by omega)
  | nam p => exact shp_tups (n := 1) _ (by
      intro d hd
      simp only [List.mem_cons, List.not_mem_nil, or_false] at hd
      rcases hd with rfl | rfl
      · exact shp_mono (shp_str _ (by decide +kernel)) (by omega)
      · exact shp_nats p)
theorem shp_dT (t : Tm) : shp 3 (dT t) := shp_tups (n := 2) _ (by
  intro d hd
  simp only [List.mem_cons, List.not_mem_nil, or_false] at hd
  rcases hd with rfl | rfl
  · exact shp_mono (shp_bool _) (by omega)
  · exact shp_dB _)
theorem noscr_tup2 {a b : PyData} (h1 : noscr a = true) (h2 : noscr b = true) : noscr (.tuple [a, b]) = true := by simp [noscr, noscrs, h1, h2]
theorem noscr_dB (b : Bd) : noscr (dB b) = true := by
  cases b with
  | nam p => exact noscr_tup2 rfl (noscr_nats p)
  | _ => rfl
theorem noscr_dT (t : Tm) : noscr (dT t) = true := noscr_tup2 rfl (noscr_dB _)
theorem eqv_nil {α : Type} (f : α → PyData) (ws : List α) : PyData.eqv (.list (ws.map f)) (.list []) = ws.isEmpty := by
  cases ws <;> simp [PyData.eqv, PyData.eqvAll]
section
variable {X : Cx} {P : Program} {w : World} {K : PySem.W.Frag} {mg : Str → Option Value} {base : Heap} {N : List Str} {sc scope : Scope} {k : Nat} {Γ : List Sl} {e : Expr} {pos p : Pos}
/-- ws == [] -/
theorem t_nil (F : XF X P w K mg base N sc k) {ts : List Tm} (h : E X Γ e (.list (ts.map dT))) : T X Γ (.Compare e [.Eq] [.List [] p] pos) ts.isEmpty :=
  t_cast (t_eqD F h li0 (noscrs_map noscr_dT _) rfl (shp_shaped (shp_list _ fun t _ => shp_dT t)) rfl) (eqv_nil _ _)
end
/-! ### number_that_fits -/
def NF.gr : NF → Int | .size => 2147483647 | .pages => 8 | .depth => 4 | .acts => 1000
def fxN (x : Int) : Fx := ⟨[], x, .no, [], x, [], x⟩
def ntf (ts : List Tm) (g : NF) : Option Int := if (aboutM ts [g.str]).isEmpty then some 0 else (numsM (aboutM ts [g.str]) g g.gr).find? fun x => (aboutM ts [g.str]).all fun t => hM t (fxN x)
theorem about_len (ts : List Tm) (ws : List Str) : (aboutM ts ws).length ≤ ts.length := List.length_filter_le _ _
section
variable {P : Program} {w : World} {K : PySem.W.Frag} {mg : Str → Option Value} {base : Heap}
def d_number_that_fits : List PyData → PyData → Prop := fun ds r => ∃ (ts : List Tm) (g : NF), ts.length ≤ 20 ∧ (∀ t ∈ ts, t.body.wf) ∧ g ≠ .acts ∧ ds = [.list (ts.map dT), .str g.str] ∧ r = dO .int (ntf ts g)
theorem w_number_that_fits {f : Addr} {fd : FuncData} (Fn : FnP K "number_that_fits" s_number_that_fits f fd) (hm : mg "number_that_fits" = some (.ref f)) (cg : CG K w mg) (f1 : FnF P w K mg base "about" 1 d_about) (f2 : FnF P w K mg base "numbers_for" 1 d_numbers_for) (f3 : FnF P w K mg base "all_hold" 5 d_all_hold) : FnF P w K mg base "number_that_fits" 6 d_number_that_fits := by
  refine fn_mk Fn hm c_number_that_fits (fun ds r ⟨_, _, _, _, _, h, _⟩ => by rw [h]; rfl) (fun _ _ _ _ _ _ us hl => match us, hl with | [_, _], _ => rfl) fun X F xd ds r ⟨ts, g, hl, wf, hg, h, hr⟩ => ?_
  subst h hr
  have hal := about_len ts [g.str]
  refine set_ F xd 2 (ca2 F f1 (nm F 0) (tu1 (nm F 1)) ⟨ts, [g.str], by omega, rfl, rfl⟩) ?_
  have haw : ∀ t ∈ aboutM ts [g.str], t.body.wf := fun t ht => wf t (List.mem_filter.mp ht).1
  unfold ntf
  generalize aboutM ts [g.str] = ws at hal haw ⊢
  refine when_ (t_nil F (nm F 2)) (fun h => ret e_int (by rw [if_pos h]; rfl)) (fun h => ?_)
  rw [if_neg (by rw [h]; exact Bool.false_ne_true)]
  refine forN F xd 3 (numsM ws g g.gr) .int (src_list (ca3 F f2 (nm F 2) (nm F 1) (e_ixKD (i := g.gr) F cg.greatest (nm F 1) (by cases g <;> first | exact absurd rfl hg | decide +kernel)) ⟨ws, g, g.gr, by omega, rfl, rfl⟩)) (fun n Γ' => (∀ b ∈ (numsM ws g g.gr).take n, (ws.all fun t => hM t (fxN b)) = false) ∧ ∃ s3 s4, Γ' = [.dat (.list (ts.map dT)), .dat (.str g.str), .dat (.list (ws.map dT)), s3, s4]) ⟨by simp, .un, .un, rfl⟩ ?_ ?_
  · rintro n x Γ' hx ⟨hall, s3, s4, rfl⟩
    refine set_ F xd 4 (d := dF (fxN x)) (e_tup (as_cons tu0 (as_cons (nm F 3) (as_cons e_str (as_cons tu0 (as_cons (nm F 3) (as_cons tu0 (as_cons (nm F 3) as_nil))))))) (by simp)) ?_
    refine when_ (t_val (ca2 F f3 (nm F 2) (nm F 4) ⟨ws, .list (ws.map dT), fxN x, by omega, haw, .inr rfl, rfl, rfl⟩)) (fun h => ret (nm F 3) ?_) (fun h => ss_nil ⟨find_step hx hall h, _, _, rfl⟩)
    rw [find_at hx hall h]
    rfl
  · rintro Γ' ⟨hall, s3, s4, rfl⟩
    refine ret e_none ?_
    rw [find_no hall]
    rfl
end
end Z
set_option Elab.async false
set_option linter.all false
set_option maxRecDepth 100000
set_option maxHeartbeats 4000000
namespace Z
open PySem PySem.Spec PyProof.Rows L2 Evl
theorem find_fm {α β : Type} {q : β → Bool} {f : α → List β} : ∀ {xs : List α} {n : Nat} {x : α} {a : β}, xs[n]? = some x → (∀ b ∈ (xs.take n).flatMap f, q b = false) → (f x).find? q = some a → (xs.flatMap f).find? q = some a
  | [], n, x, a, h, _, _ => by simp at h
  | y :: xs, 0, x, a, h, _, hq => by
    simp at h
    subst h
    rw [List.flatMap_cons, List.find?_append, hq]
    rfl
  | y :: xs, n + 1, x, a, h, h1, hq => by
    rw [List.take_succ_cons, List.flatMap_cons] at h1
    have e : (f y).find? q = none := List.find?_eq_none.mpr fun b hb => by rw [h1 b (List.mem_append.mpr (.inl hb))]; exact Bool.false_ne_true
    rw [List.flatMap_cons, List.find?_append, e]
    exact find_fm (n := n) (by simpa using h) (fun b hb => h1 b (List.mem_append.mpr (.inr hb))) hq
/-! ### kinds_that_fit -/
def fxK (k : Kd × List Kd) : Fx := ⟨[], 0, k.1, k.2, 0, [], 0⟩
def wIC : List Str := ["is", "could"]
def ktf (ts : List Tm) : Option (Kd × List Kd) := kcM.find? fun kk => (aboutM ts wIC).all fun t => hM t (fxK kk)
section
variable {P : Program} {w : World} {K : PySem.W.Frag} {mg : Str → Option Value} {base : Heap}
def d_kinds_that_fit : List PyData → PyData → Prop := fun ds r => ∃ (ts : List Tm), ts.length ≤ 20 ∧ (∀ t ∈ ts, t.body.wf) ∧ ds = [.list (ts.map dT)] ∧ r = dO dKK (ktf ts)
theorem w_kinds_that_fit {f : Addr} {fd : FuncData} (Fn : FnP K "kinds_that_fit" s_kinds_that_fit f fd) (hm : mg "kinds_that_fit" = some (.ref f)) (f1 : FnF P w K mg base "about" 1 d_about) (f2 : FnF P w K mg base "kind_choices" 1 d_kind_choices) (f3 : FnF P w K mg base "all_hold" 5 d_all_hold) : FnF P w K mg base "kinds_that_fit" 6 d_kinds_that_fit := by
  refine fn_mk Fn hm c_kinds_that_fit (fun ds r ⟨_, _, _, h, _⟩ => by rw [h]; rfl) (fun _ _ _ _ _ _ us hl => match us, hl with | [_], _ => rfl) fun X F xd ds r ⟨ts, hl, wf, h, hr⟩ => ?_
  subst h hr
  have hal := about_len ts wIC
  refine set_ F xd 1 (ca2 F f1 (nm F 0) (tu2 e_str e_str) ⟨ts, wIC, by omega, rfl, rfl⟩) ?_
  have haw : ∀ t ∈ aboutM ts wIC, t.body.wf := fun t ht => wf t (List.mem_filter.mp ht).1
  unfold ktf
  generalize aboutM ts wIC = ws at hal haw ⊢
  refine forN2 F xd 2 3 kcM (fun a => .str a.1.str) (fun a => dKs a.2) (src_list (ca0 F f2 ⟨rfl, rfl⟩)) (fun n Γ' => (∀ b ∈ kcM.take n, (ws.all fun t => hM t (fxK b)) = false) ∧ ∃ s3 s4, Γ' = [.dat (.list (ts.map dT)), .dat (.list (ws.map dT)), s3, s4]) ⟨by simp, .un, .un, rfl⟩ ?_ ?_
  · rintro n x Γ' hx ⟨hall, s3, s4, rfl⟩
    refine when_ (t_val (ca2 F f3 (nm F 1) (e_tup (as_cons tu0 (as_cons e_int (as_cons (nm F 2) (as_cons (nm F 3) (as_cons e_int (as_cons tu0 (as_cons e_int as_nil))))))) (by simp)) ⟨ws, .list (ws.map dT), fxK x, by omega, haw, .inr rfl, rfl, rfl⟩)) (fun h => ret (tu2 (nm F 2) (nm F 3)) ?_) (fun h => ss_nil ⟨find_step hx hall h, _, _, rfl⟩)
    rw [find_at hx hall h]
    rfl
  · rintro Γ' ⟨hall, s3, s4, rfl⟩
    refine ret e_none ?_
    rw [find_no hall]
    rfl
end
/-! ### acts_that_fit -/
def acL6 : List Ac := [.open_, .file, .link, .form, .fetch, .script]
def bitI (b i : Nat) : Bool := decide (Builtin.bitAnd ((0 + (b : Int)) / 2 ^ ((i : Int)).toNat) 1 = 1)
def akM (b : Nat) : List Ac := (acL6.zipIdx.filter fun p => bitI b p.2).map (·.1)
def akX (ks : List Ac) (x : Int) : List Ac := ks ++ (List.replicate (x - ks.length).toNat (ks.take 1)).flatten
def akN (ws : List Tm) (b : Nat) : List Int := numsM (ws ++ [⟨false, .num .acts .eq (akM b).length⟩]) .acts 1000
def akB (ks : List Ac) (x : Int) : Bool := decide (x = ks.length) || (decide ((ks.length : Int) < x) && decide (0 < (ks.length : Int)))
def akC (ws : List Tm) (b : Nat) : List (List Ac) := ((akN ws b).filter (akB (akM b))).map (akX (akM b))
def fxA (a : List Ac) : Fx := ⟨[], 0, .no, [], 0, a, 0⟩
def wAA : List Str := ["act", "acts"]
def atf (ts : List Tm) : Option (List Ac) := if (aboutM ts wAA).isEmpty then some [] else ((List.range 64).flatMap (akC (aboutM ts wAA))).find? fun a => (aboutM ts wAA).all fun t => hM t (fxA a)
theorem numsM_bnd (ts : List Tm) (g : NF) (gr : Int) (h : 0 ≤ gr) : ∀ x ∈ numsM ts g gr, 0 ≤ x ∧ x ≤ gr := by
  have put : ∀ ks x, (∀ y ∈ ks, 0 ≤ y ∧ y ≤ gr) → 0 ≤ x → x ≤ gr → ∀ y ∈ putI ks x, 0 ≤ y ∧ y ≤ gr := fun ks x hk h1 h2 y hy => by
    rcases putI_mem.mp hy with hy | rfl
    · exact hk y hy
    · exact ⟨h1, h2⟩
  have puts : ∀ (l ks : List Int), (∀ y ∈ ks, 0 ≤ y ∧ y ≤ gr) → ∀ y ∈ l.foldl (putIf gr) ks, 0 ≤ y ∧ y ≤ gr := fun l => by
    induction l with
    | nil => intro ks hk; exact hk
    | cons a l ih =>
      intro ks hk
      refine ih _ ?_
      unfold putIf
      split
      · rename_i hh; exact put _ _ hk hh.1 hh.2
      · exact hk
  have all : ∀ (ts : List Tm) (ks : List Int), (∀ y ∈ ks, 0 ≤ y ∧ y ≤ gr) → ∀ y ∈ ts.foldl (numS g gr) ks, 0 ≤ y ∧ y ≤ gr := fun ts => by
    induction ts with
    | nil => intro ks hk; exact hk
    | cons a l ih =>
      intro ks hk
      refine ih _ ?_
      unfold numS
      split
      · split
        · exact puts _ _ hk
        · exact hk
      · exact hk
  intro x hx
  have hx' : x ∈ numK ts g gr := (List.mergeSort_perm _ _).mem_iff.mp hx
  exact all ts _ (put _ _ (put _ _ (by simp) (by omega) h) h (by omega)) x hx'
theorem cut_to (ds : List PyData) (n : Nat) : cutD ds none (some (n : Int)) = ds.take n := by
  unfold cutD
  rw [HT.sIx_nat, HT.sIx_none]
  simp [List.take_eq_take_iff]
theorem cut_from (ds : List PyData) (n : Nat) : cutD ds (some (n : Int)) none = ds.drop n := by
  unfold cutD
  rw [HT.sIx_nat, HT.sIx_none]
  by_cases h : n ≤ ds.length
  · rw [Nat.min_eq_left h, List.take_of_length_le (by simp)]
  · rw [Nat.min_eq_right (by omega), List.drop_eq_nil_of_le (by omega), List.drop_eq_nil_of_le (by omega)]
    simp
theorem akX_eq (ks : List Ac) (x : Int) : ks.map (fun k => PyData.str k.str) ++ ((List.replicate (x - ks.length).toNat (cutD (ks.map fun k => PyData.str k.str) none (some 1))).flatten ++ []) = (akX ks x).map fun k => PyData.str k.str := by
  have := cut_to (ks.map fun k => PyData.str k.str) 1
  rw [show ((1 : Nat) : Int) = 1 from rfl] at this
  rw [this]
  unfold akX
  rw [List.map_append, List.append_nil, ← List.map_take]
  congr 1
  generalize ks.take 1 = l
  induction (x - ks.length).toNat with
  | zero => rfl
  | succ n ih => rw [List.replicate_succ, List.replicate_succ, List.flatten_cons, List.flatten_cons, List.map_append, ih]
theorem akM_len (b : Nat) : (akM b).length ≤ 6 := by
  unfold akM
  rw [List.length_map]
  exact Nat.le_trans (List.length_filter_le _ _) (by decide)
section
variable {P : Program} {w : World} {K : PySem.W.Frag} {mg : Str → Option Value} {base : Heap}
def d_acts_that_fit : List PyData → PyData → Prop := fun ds r => ∃ (ts : List Tm), ts.length ≤ 19 ∧ (∀ t ∈ ts, t.body.wf) ∧ ds = [.list (ts.map dT)] ∧ r = dO dAs (atf ts)
theorem w_acts_that_fit {f : Addr} {fd : FuncData} (Fn : FnP K "acts_that_fit" s_acts_that_fit f fd) (hm : mg "acts_that_fit" = some (.ref f)) (bn : BN mg) (cg : CG K w mg) (f1 : FnF P w K mg base "about" 1 d_about) (f2 : FnF P w K mg base "numbers_for" 1 d_numbers_for) (f3 : FnF P w K mg base "all_hold" 5 d_all_hold) : FnF P w K mg base "acts_that_fit" 6 d_acts_that_fit := by
  refine fn_mk Fn hm c_acts_that_fit (fun ds r ⟨_, _, _, h, _⟩ => by rw [h]; rfl) (fun _ _ _ _ _ _ us hl => match us, hl with | [_], _ => rfl) fun X F xd ds r ⟨ts, hl, wf, h, hr⟩ => ?_
  subst h hr
  have hal := about_len ts wAA
  refine set_ F xd 1 (ca2 F f1 (nm F 0) (tu2 e_str e_str) ⟨ts, wAA, by omega, rfl, rfl⟩) ?_
  have haw : ∀ t ∈ aboutM ts wAA, t.body.wf := fun t ht => wf t (List.mem_filter.mp ht).1
  unfold atf
  generalize aboutM ts wAA = ws at hal haw ⊢
  refine when_ (t_nil F (nm F 1)) (fun h => ret tu0 (by rw [if_pos h]; rfl)) (fun h => ?_)
  rw [if_neg (by rw [h]; exact Bool.false_ne_true)]
  refine forN F xd 2 (List.range 64) (fun (i : Nat) => .int (0 + (i : Int))) (src_rng1 F bn e_int (by decide) (by decide) rfl) (fun n Γ' => (∀ a ∈ ((List.range 64).take n).flatMap (akC ws), (ws.all fun t => hM t (fxA a)) = false) ∧ ∃ s2 s3 s4 s5 s6 s7, Γ' = [.dat (.list (ts.map dT)), .dat (.list (ws.map dT)), s2, s3, s4, s5, s6, s7]) ⟨by simp, .un, .un, .un, .un, .un, .un, rfl⟩ ?_ ?_
  · rintro n b Γ' hb ⟨hall, s2, s3, s4, s5, s6, s7, rfl⟩
    have hlk := akM_len b
    refine setLcN2 F xd 3 4 5 acL6.zipIdx (fun p => .int (p.2 : Nat)) (fun p => .str p.1.str) ?_ (fun p => bitI b p.2) (fun p => .str p.1.str) (fun Y FY p hp => .one (t_eq (e_and_ (e_shr (nm FY 2) (nm FY 4) (by omega)) e_int) e_int (.int _ _))) (fun Y FY p hp _ => nm FY 5) (by decide) ?_
    · have e : (acL6.zipIdx.map fun p => PyData.tuple [.int (p.2 : Nat), .str p.1.str]) = ((["open", "file", "link", "form", "fetch", "script"] : List Str).map PyData.str).zipIdx.map fun p => .tuple [.int (p.2 : Nat), p.1] := by rfl
      rw [e]
      exact src_enumT F bn (gt F cg.acts)
    · have e : (acL6.zipIdx.filter fun p => bitI b p.2).map (fun p => PyData.str p.1.str) = (akM b).map fun k => PyData.str k.str := by simp [akM, Function.comp_def]
      rw [e]
      simp only [List.set_cons_succ, List.set_cons_zero]
      have eC : akC ws b = ((akN ws b).filter (akB (akM b))).map (akX (akM b)) := rfl
      have hN : akN ws b = numsM (ws ++ [⟨false, .num .acts .eq (akM b).length⟩]) .acts 1000 := rfl
      have hbnd : ∀ x ∈ akN ws b, 0 ≤ x ∧ x ≤ 1000 := numsM_bnd _ _ _ (by decide)
      have eL : ws.map dT ++ [dT (Tm.mk false (.num .acts .eq ((akM b).map fun k => PyData.str k.str).length))] = (ws ++ [Tm.mk false (.num .acts .eq (akM b).length)]).map dT := by simp
      generalize akN ws b = ns at eC hN hbnd
      generalize akM b = ks at hlk eC hN eL ⊢
      refine forN F xd 6 ns .int (src_list (e_cast (x := .list ((numsM (ws ++ [⟨false, .num .acts .eq ks.length⟩]) .acts 1000).map .int)) (ca3 F f2 (e_cast (x := .list (ws.map dT ++ [dT (Tm.mk false (.num .acts .eq (ks.map fun k => PyData.str k.str).length))])) (e_list (as_star (nm F 1) rfl (as_cons (tu2 e_bool (tu3 e_str e_str (e_lenL F bn (nm F 3) rfl))) as_nil)) (by simp; omega)) (congrArg PyData.list eL)) e_str (gi F cg.macts) ⟨ws ++ [⟨false, .num .acts .eq ks.length⟩], .acts, 1000, by simp; omega, rfl, rfl⟩) (by rw [hN]))) (fun m Γ' => (∀ a ∈ ((ns.take m).filter (akB ks)).map (akX ks), (ws.all fun t => hM t (fxA a)) = false) ∧ ∃ s4 s5 s6 s7, Γ' = [.dat (.list (ts.map dT)), .dat (.list (ws.map dT)), .dat (.int (0 + (b : Int))), .dat (.list (ks.map fun k => .str k.str)), s4, s5, s6, s7]) ⟨by simp, _, _, _, _, rfl⟩ ?_ ?_
      · rintro m x Γ' hx ⟨hin, s4, s5, s6, s7, rfl⟩
        have hb2 := hbnd x (List.mem_of_getElem? hx)
        have stp : ∀ a, a ∈ ((ns.take (m + 1)).filter (akB ks)).map (akX ks) → a ∈ ((ns.take m).filter (akB ks)).map (akX ks) ∨ (akB ks x = true ∧ a = akX ks x) := fun a ha => by
          rw [take_snoc hx, List.filter_append, List.map_append, List.mem_append] at ha
          rcases ha with ha | ha
          · exact .inl ha
          · right
            cases hB : akB ks x with
            | true => simp [hB] at ha; exact ⟨rfl, ha⟩
            | false => simp [hB] at ha
        refine when_ (v := akB ks x) (t_cast (t_or2 (t_eq (nm F 6) (e_lenL F bn (nm F 3) rfl) (.int _ _)) fun _ => t_chain_gt (nm F 6) (e_lenL F bn (nm F 3) rfl) e_int) (by simp [akB])) (fun h => ?_) (fun h => ss_nil ⟨fun a ha => ?_, _, _, _, _, rfl⟩)
        · have l1 : (cutD (ks.map fun k => PyData.str k.str) none (some 1)).length ≤ 1 := by
            have := cut_to (ks.map fun k => PyData.str k.str) 1
            rw [show ((1 : Nat) : Int) = 1 from rfl] at this
            rw [this, List.length_take]
            omega
          have l2 : (cutD (ks.map fun k => PyData.str k.str) none (some 1)).length * (x - (ks.map fun k => PyData.str k.str).length).toNat ≤ 1000 := by
            refine Nat.le_trans (Nat.mul_le_mul_right _ l1) ?_
            omega
          have eX := akX_eq ks x
          rw [← List.length_map (as := ks) (f := fun k => PyData.str k.str)] at eX
          refine set_ F xd 7 (d := dAs (akX ks x)) (e_cast (e_tupleL F bn (e_list (as_star (nm F 3) rfl (as_star (e_repL (e_slL (nm F 3) .none (.some e_int)) (e_sub (nm F 6) (e_lenL F bn (nm F 3) rfl)) (by simp; omega) (by simp; omega) (by omega)) rfl as_nil)) ?_) rfl) (congrArg PyData.tuple eX)) ?_
          · simp only [List.length_append, List.length_map, List.length_flatten, List.map_replicate, List.sum_replicate_nat, List.length_nil]
            simp only [List.length_map] at l2
            rw [Nat.mul_comm] at l2
            omega
          refine when_ (t_val (ca2 F f3 (nm F 1) (e_tup (as_cons tu0 (as_cons e_int (as_cons e_str (as_cons tu0 (as_cons e_int (as_cons (nm F 7) (as_cons e_int as_nil))))))) (by simp)) ⟨ws, .list (ws.map dT), fxA (akX ks x), by omega, haw, .inr rfl, rfl, rfl⟩)) (fun h2 => ret (nm F 7) ?_) (fun h2 => ss_nil ?_)
          · have hfm : ((List.range 64).flatMap (akC ws)).find? (fun a => ws.all fun t => hM t (fxA a)) = some (akX ks x) := by
              refine find_fm hb hall ?_
              rw [eC]
              obtain ⟨hm1, hm2⟩ := List.getElem?_eq_some_iff.mp hx
              have sp : ns = ns.take m ++ x :: ns.drop (m + 1) := by
                rw [← hm2, List.getElem_cons_drop, List.take_append_drop]
              rw [sp, List.filter_append, List.map_append, List.find?_append, List.find?_eq_none.mpr fun a ha => by rw [hin a ha]; exact Bool.false_ne_true]
              rw [List.filter_cons, if_pos h, List.map_cons, List.find?_cons, h2]
              rfl
            rw [hfm]
            rfl
          · refine ss_nil ⟨fun a ha => ?_, _, _, _, _, rfl⟩
            rcases stp a ha with ha | ⟨_, rfl⟩
            · exact hin a ha
            · exact h2
        · rcases stp a ha with ha | ⟨h3, _⟩
          · exact hin a ha
          · rw [h] at h3; cases h3
      · rintro Γ' ⟨hin, s4, s5, s6, s7, rfl⟩
        rw [List.take_length] at hin
        refine ss_nil ⟨fun a ha => ?_, _, _, _, _, _, _, rfl⟩
        rw [fm_take _ hb, List.mem_append] at ha
        rcases ha with ha | ha
        · exact hall a ha
        · rw [eC] at ha
          exact hin a ha
  · rintro Γ' ⟨hall, s2, s3, s4, s5, s6, s7, rfl⟩
    refine ret e_none ?_
    have hall' : ∀ a ∈ (List.range 64).flatMap (akC ws), (ws.all fun t => hM t (fxA a)) = false := hall
    rw [List.find?_eq_none.mpr fun a ha => by rw [hall' a ha]; exact Bool.false_ne_true]
    rfl
end
end Z
set_option Elab.async false
set_option linter.all false
set_option maxRecDepth 100000
set_option maxHeartbeats 4000000
/-! The table of names, as a plain function. -/
namespace Z
open PySem PySem.Spec PyProof.Rows L2 Evl
abbrev Sts := List Bts
def stS (ps : List Bts) : Sts := ps.map fun p => opn p [0]
def mvS (ps : List Bts) (st : Sts) (b : Nat) : Sts := (ps.zip st).map fun q => mvd q.1 q.2 b
def accS (ps : List Bts) (st : Sts) : List Bool := (ps.zip st).map fun q => decide (q.1.length ∈ q.2)
/-- one letter -/
def bfs1 (ps : List Bts) (e : Sts × Bts) (ns : List (Sts × Bts)) (b : Nat) : List (Sts × Bts) := if mvS ps e.1 b ∈ ns.map (·.1) then ns else ns ++ [(mvS ps e.1 b, e.2 ++ [b])]
def bfsE (ps : List Bts) (ls : List Nat) (ns : List (Sts × Bts)) (e : Sts × Bts) : List (Sts × Bts) := ls.foldl (bfs1 ps e) ns
def bfs (ps : List Bts) (ls : List Nat) : Nat → List (Sts × Bts) → Nat → List (Sts × Bts)
  | 0, ns, _ => ns
  | f + 1, ns, i => match ns[i]? with
    | none => ns
    | some e => bfs ps ls f (bfsE ps ls ns e) (i + 1)
def ltrs (ps : List Bts) : List Nat := (List.range 64).filter fun b => ps.any fun p => decide (b ∈ p)
def ltr256 (ps : List Bts) : List Nat := (List.range 256).filter fun b => ps.any fun p => decide (b ∈ p)
def othr (ps : List Bts) : List Nat := ((List.range 256).filter fun b => !ps.any fun p => decide (b ∈ p)).take 1
def nmsM (ps : List Bts) : List (Sts × Bts) := bfs ps (othr ps ++ ltr256 ps) 600 [(stS ps, [])] 0
def tabS (ps : List Bts) (tb : List (List Bool × Bts)) (e : Sts × Bts) : List (List Bool × Bts) := if accS ps e.1 ∈ tb.map (·.1) then tb else tb ++ [(accS ps e.1, e.2)]
def ntb (ps : List Bts) : List (List Bool × Bts) := (nmsM ps).foldl (tabS ps) []
theorem mvS_len (ps : List Bts) (st : Sts) (b : Nat) (h : st.length = ps.length) : (mvS ps st b).length = ps.length := by simp [mvS, h]
theorem accS_len (ps : List Bts) (st : Sts) (h : st.length = ps.length) : (accS ps st).length = ps.length := by simp [accS, h]
theorem bfs1_len {ps : List Bts} {e : Sts × Bts} {ns : List (Sts × Bts)} {b : Nat} (he : e.1.length = ps.length) (h : ∀ x ∈ ns, x.1.length = ps.length) : ∀ x ∈ bfs1 ps e ns b, x.1.length = ps.length := fun x hx => by
  unfold bfs1 at hx
  split at hx
  · exact h x hx
  · rcases List.mem_append.mp hx with hx | hx
    · exact h x hx
    · simp at hx
      rw [hx]
      exact mvS_len ps _ _ he
theorem bfsE_len {ps : List Bts} {e : Sts × Bts} (he : e.1.length = ps.length) : ∀ (ls : List Nat) {ns : List (Sts × Bts)}, (∀ x ∈ ns, x.1.length = ps.length) → ∀ x ∈ bfsE ps ls ns e, x.1.length = ps.length
  | [], ns, h => h
  | b :: ls, ns, h => bfsE_len he ls (bfs1_len he h)
theorem bfs_len {ps : List Bts} {ls : List Nat} : ∀ (f : Nat) {ns : List (Sts × Bts)} (i : Nat), (∀ x ∈ ns, x.1.length = ps.length) → ∀ x ∈ bfs ps ls f ns i, x.1.length = ps.length
  | 0, ns, i, h => h
  | f + 1, ns, i, h => by
    unfold bfs
    cases q : ns[i]? with
    | none => exact h
    | some e => exact bfs_len f (i + 1) (bfsE_len (h e (List.mem_of_getElem? q)) ls h)
theorem nms_len (ps : List Bts) : ∀ x ∈ nmsM ps, x.1.length = ps.length := bfs_len 600 0 (by simp [stS])
theorem tabS_ok {ps : List Bts} {tb : List (List Bool × Bts)} {e : Sts × Bts} (he : e.1.length = ps.length) (h1 : ∀ x ∈ tb, x.1.length = ps.length) (h2 : (tb.map (·.1)).Nodup) : (∀ x ∈ tabS ps tb e, x.1.length = ps.length) ∧ ((tabS ps tb e).map (·.1)).Nodup := by
  unfold tabS
  split
  · exact ⟨h1, h2⟩
  · rename_i hn
    refine ⟨fun x hx => ?_, ?_⟩
    · rcases List.mem_append.mp hx with hx | hx
      · exact h1 x hx
      · simp at hx
        rw [hx]
        exact accS_len ps _ he
    · rw [List.map_append, List.nodup_append]
      exact ⟨h2, by simp, fun a ha b hb e' => hn (by simp at hb; rw [← hb, ← e']; exact ha)⟩
theorem tabs_ok {ps : List Bts} : ∀ (ns : List (Sts × Bts)) {tb : List (List Bool × Bts)}, (∀ x ∈ ns, x.1.length = ps.length) → (∀ x ∈ tb, x.1.length = ps.length) → (tb.map (·.1)).Nodup → (∀ x ∈ ns.foldl (tabS ps) tb, x.1.length = ps.length) ∧ ((ns.foldl (tabS ps) tb).map (·.1)).Nodup
  | [], tb, _, h1, h2 => ⟨h1, h2⟩
  | e :: ns, tb, h, h1, h2 => by
    obtain ⟨g1, g2⟩ := tabS_ok (h e (by simp)) h1 h2
    exact tabs_ok ns (fun x hx => h x (by simp [hx])) g1 g2
theorem ntb_len (ps : List Bts) : ∀ x ∈ ntb ps, x.1.length = ps.length := (tabs_ok (nmsM ps) (nms_len ps) (by simp) (by simp)).1
theorem ntb_nodup (ps : List Bts) : ((ntb ps).map (·.1)).Nodup := (tabs_ok (nmsM ps) (nms_len ps) (by simp) (by simp)).2
/-! ### as data -/
def tbE (tb : List (List Bool × Bts)) : List En := tb.map fun e => (.inl e.1, some e.2)
def dTb (w : World) (tb : List (List Bool × Bts)) : PyData := tabD (hsh w (tbE tb))
theorem tkN_bools {a b : List Bool} (h : tkN (.inl a) = tkN (.inl b)) : a = b := by
  have h' : a.map (fun b => NestedKey.num (if b = true then 1 else 0)) = b.map (fun b => NestedKey.num (if b = true then 1 else 0)) := by simpa [tkN] using h
  have e2 := congrArg (List.map fun p : NestedKey => match p with | .num n => decide (n = 1) | _ => false) h'
  simp only [List.map_map, Function.comp_def] at e2
  have f : ∀ l : List Bool, (l.map fun x => decide ((if x = true then (1 : Int) else 0) = 1)) = l := fun l => by
    induction l with
    | nil => rfl
    | cons b l ih => rw [List.map_cons, ih]; cases b <;> rfl
  rwa [f, f] at e2
theorem natN_inj {a b : List Nat} (h : natN a = natN b) : a = b := by
  have h' : a.map (fun (n : Nat) => NestedKey.num n) = b.map (fun (n : Nat) => NestedKey.num n) := by simpa [natN] using h
  have e2 := congrArg (List.map fun p : NestedKey => match p with | .num n => n.toNat | _ => 0) h'
  simpa [List.map_map, Function.comp_def] using e2
theorem map_inj {α β : Type} {f : α → β} (hf : ∀ a b, f a = f b → a = b) : ∀ {l m : List α}, l.map f = m.map f → l = m
  | [], [], _ => rfl
  | [], _ :: _, h => by simp at h
  | _ :: _, [], h => by simp at h
  | a :: l, b :: m, h => by
    simp only [List.map_cons, List.cons.injEq] at h
    rw [hf a b h.1, map_inj hf h.2]
theorem tkN_sts {a b : List (List Nat)} (h : tkN (.inr a) = tkN (.inr b)) : a = b := by
  have h' : a.map natN = b.map natN := by simpa [tkN] using h
  exact map_inj (fun _ _ => natN_inj) h'
theorem nodup_map {α β : Type} {f : α → β} (hf : ∀ a b, f a = f b → a = b) : ∀ {l : List α}, l.Nodup → (l.map f).Nodup
  | [], _ => by simp
  | a :: l, h => by
    rw [List.nodup_cons] at h
    rw [List.map_cons, List.nodup_cons]
    refine ⟨fun hm => ?_, nodup_map hf h.2⟩
    obtain ⟨b, hb, e⟩ := List.mem_map.mp hm
    exact h.1 (hf _ _ e ▸ hb)
theorem tbE_nd {tb : List (List Bool × Bts)} (h : (tb.map (·.1)).Nodup) : ((tbE tb).map fun (e : En) => tkN e.1).Nodup := by
  have : ((tbE tb).map fun (e : En) => tkN e.1) = (tb.map (·.1)).map fun b => tkN (.inl b) := by simp [tbE, Function.comp_def]
  rw [this]
  exact nodup_map (fun _ _ h => tkN_bools h) h
theorem lk_tb {n : Nat} {e : List Bool × Bts} : ∀ {tb : List (List Bool × Bts)}, (tb.map (·.1)).Nodup → tb[n]? = some e → lk (tbE tb) (tkN (.inl e.1)) = some (some e.2) := by
  intro tb
  induction tb generalizing n with
  | nil => intro _ h; simp at h
  | cons x tb ih =>
    intro hn h
    rw [List.map_cons, List.nodup_cons] at hn
    by_cases q : x.1 = e.1
    · have e0 : x = e := by
        cases n with
        | zero => simpa using h
        | succ n =>
          exfalso
          have hm : e ∈ tb := List.mem_of_getElem? (i := n) (by simpa using h)
          exact hn.1 (List.mem_map.mpr ⟨e, hm, q.symm⟩)
      subst e0
      simp [lk, tbE]
    · cases n with
      | zero =>
        simp at h
        exact absurd (by rw [h]) q
      | succ n =>
        have := ih hn.2 (n := n) (by simpa using h)
        have hne : ¬ tkN (.inl x.1) = tkN (.inl e.1) := fun z => q (tkN_bools z)
        simp only [lk, tbE, List.map_cons, List.find?_cons, hne, decide_false] at this ⊢
        exact this
end Z
set_option Elab.async false
set_option linter.all false
set_option maxRecDepth 100000
set_option maxHeartbeats 4000000
namespace Z
open PySem PySem.Spec PyProof.Rows L2 Evl
/-! ### name_that_fits -/
def nameQ (ps : List Bts) (key : List Bool) (t : Tm) : Bool := match t.body with
  | .nam p => key.getD (ps.idxOf p) false != t.neg
  | _ => true
def wNm : List Str := ["name"]
def nfit (ts : List Tm) (ps : List Bts) (tb : List (List Bool × Bts)) : Option Bts := (tb.find? fun e => (aboutM ts wNm).all (nameQ ps e.1)).map (·.2)
structure tbOk (ps : List Bts) (tb : List (List Bool × Bts)) : Prop where
  len : ∀ x ∈ tb, x.1.length = ps.length
  nd : (tb.map (·.1)).Nodup
def patsIn (ts : List Tm) (ps : List Bts) : Prop := ∀ t ∈ ts, ∀ p, t.body = .nam p → p ∈ ps
theorem is_nam {t : Tm} {ts : List Tm} (h : t ∈ aboutM ts wNm) : ∃ p, t.body = .nam p := by
  have h2 := (List.mem_filter.mp h).2
  obtain ⟨ng, b⟩ := t
  cases b with
  | nam p => exact ⟨p, rfl⟩
  | num f s n =>
    exfalso
    have : f.str = "name" := by simpa [wNm, Bd.word] using h2
    exact nf_name f this
  | isk k => exact absurd (of_decide_eq_true h2) (show ¬ ("is" : Str) ∈ (["name"] : List Str) by decide +kernel)
  | could k => exact absurd (of_decide_eq_true h2) (show ¬ ("could" : Str) ∈ (["name"] : List Str) by decide +kernel)
  | act k => exact absurd (of_decide_eq_true h2) (show ¬ ("act" : Str) ∈ (["name"] : List Str) by decide +kernel)
theorem idx_at {p : Bts} : ∀ {ps : List Bts}, p ∈ ps → ps[ps.idxOf p]? = some p ∧ ∀ m z, m < ps.idxOf p → ps[m]? = some z → z ≠ p
  | [], h => by simp at h
  | a :: ps, h => by
    by_cases q : a = p
    · subst q
      simp [List.idxOf_cons]
    · have hm : p ∈ ps := by
        rcases List.mem_cons.mp h with e | e
        · exact absurd e.symm q
        · exact e
      obtain ⟨h1, h2⟩ := idx_at hm
      have e : (a :: ps).idxOf p = ps.idxOf p + 1 := by
        rw [List.idxOf_cons]
        have : (a == p) = false := by simpa using q
        rw [this]
        rfl
      rw [e]
      refine ⟨by simpa using h1, fun m z hm' hz => ?_⟩
      cases m with
      | zero =>
        simp at hz
        rw [← hz]
        exact q
      | succ m => exact h2 m z (by omega) (by simpa using hz)
section
variable {P : Program} {w : World} {K : PySem.W.Frag} {mg : Str → Option Value} {base : Heap}
def d_name_that_fits (w : World) : List PyData → PyData → Prop := fun ds r => ∃ (ts : List Tm) (ps : List Bts) (tb : List (List Bool × Bts)), ts.length ≤ 20 ∧ patsIn ts ps ∧ tbOk ps tb ∧ ds = [.list (ts.map dT), .list (ps.map dNs), dTb w tb] ∧ r = dO dNs (nfit ts ps tb)
theorem w_name_that_fits {f : Addr} {fd : FuncData} (Fn : FnP K "name_that_fits" s_name_that_fits f fd) (hm : mg "name_that_fits" = some (.ref f)) (bn : BN mg) (f1 : FnF P w K mg base "about" 1 d_about) : FnF P w K mg base "name_that_fits" 2 (d_name_that_fits w) := by
  refine fn_mk Fn hm c_name_that_fits (fun ds r ⟨_, _, _, _, _, _, h, _⟩ => by rw [h]; rfl) (fun _ _ _ _ _ _ us hl => match us, hl with | [_, _, _], _ => rfl) fun X F xd ds r ⟨ts, ps, tb, hl, hp, ok, h, hr⟩ => ?_
  subst h hr
  have hal := about_len ts wNm
  refine set_ F xd 3 (ca2 F f1 (nm F 0) (tu1 e_str) ⟨ts, wNm, by omega, rfl, rfl⟩) ?_
  have hn : ∀ t ∈ aboutM ts wNm, ∃ p, t.body = .nam p ∧ p ∈ ps := fun t ht => by
    obtain ⟨p, e⟩ := is_nam ht
    exact ⟨p, e, hp t (List.mem_filter.mp ht).1 p e⟩
  unfold nfit
  generalize aboutM ts wNm = ws at hal hn ⊢
  refine forN F xd 4 tb (fun e => .tuple (e.1.map .bool)) (by
    have e : (tb.map fun e => PyData.tuple (e.1.map .bool)) = (tbE tb).map fun (e : En) => tkD e.1 := by simp [tbE, tkD]
    rw [e]
    exact src_tab F (nm F 2)) (fun n Γ' => (∀ b ∈ tb.take n, ws.all (nameQ ps b.1) = false) ∧ ∃ s4 s5 s6, Γ' = [.dat (.list (ts.map dT)), .dat (.list (ps.map dNs)), .dat (dTb w tb), .dat (.list (ws.map dT)), s4, s5, s6]) ⟨by simp, .un, .un, .un, rfl⟩ ?_ ?_
  · rintro n x Γ' hx ⟨hall, s4, s5, s6, rfl⟩
    have hxl := ok.len x (List.mem_of_getElem? hx)
    refine when_ (t_val (allOf F bn ws (nameQ ps x.1) (lcA2 F 5 6 ws (fun t => .bool t.neg) (fun t => dB t.body) (src_list (ds := ws.map dT) (nm F 3)) (fun t => .bool (nameQ ps x.1 t)) (fun Y FY t ht => ?_) (by omega)))) (fun h => ?_) (fun h => ss_nil ⟨find_step hx hall h, _, _, _, rfl⟩)
    · obtain ⟨ng, b⟩ := t
      obtain ⟨p, e, hpp⟩ := hn _ ht
      have e' : b = .nam p := e
      subst e'
      obtain ⟨i1, i2⟩ := idx_at hpp
      have hlt : ps.idxOf p < x.1.length := by rw [hxl]; exact (List.getElem?_eq_some_iff.mp i1).1
      have hg : x.1[ps.idxOf p]? = some x.1[ps.idxOf p] := List.getElem?_eq_getElem hlt
      have hq : nameQ ps x.1 ⟨ng, .nam p⟩ = (!decide (x.1[ps.idxOf p] = ng)) := by
        rw [bne_dec]
        simp [nameQ, List.getD_eq_getElem?_getD, hg]
      rw [hq]
      have eb : ∀ {pos}, E Y [.dat (.list (ts.map dT)), .dat (.list (ps.map dNs)), .dat (dTb w tb), .dat (.list (ws.map dT)), .dat (.tuple (x.1.map .bool)), .dat (.bool ng), .dat (dB (.nam p))] (.Name "body" pos) (.tuple [.str "name", dNs p]) := fun {pos} => nm FY 6
      refine e_ne (e_ixT (ds := x.1.map .bool) (nm FY 4) (e_index FY (nm FY 1) (e_ixT eb e_int rfl) (noscrs_map noscr_nats _) (noscr_nats p) (shp_shaped (shp_natss _)) (shp_shaped (shp_nats p)) (j := ps.idxOf p) (z := dNs p) (by rw [List.getElem?_map, i1]; rfl) (by rw [eqv_nats]; simp) (fun m z' hm hz => ?_)) (atI_nn (by rw [List.getElem?_map, hg]; rfl))) (nm FY 5) (.bool _ _)
      rw [List.getElem?_map] at hz
      cases q : ps[m]? with
      | none => rw [q] at hz; cases hz
      | some zz =>
        rw [q] at hz
        cases hz
        rw [eqv_nats]
        exact decide_eq_false (i2 m zz hm q)
    · refine ret (e_getT F (tk := .inl x.1) (v := some x.2) (nm F 2) (tbE_nd ok.nd) (nm F 4) (lk_tb ok.nd hx)) ?_
      rw [find_at (q := fun e : List Bool × Bts => ws.all (nameQ ps e.1)) hx hall h]
      rfl
  · rintro Γ' ⟨hall, s4, s5, s6, rfl⟩
    refine ret e_none ?_
    rw [find_no (q := fun e : List Bool × Bts => ws.all (nameQ ps e.1)) hall]
    rfl
end
/-! ### facts_that_fit, first_facts -/
def fft (ts : List Tm) (ps : List Bts) (tb : List (List Bool × Bts)) : Option Fx := match nfit ts ps tb, ktf ts, ntf ts .size, ntf ts .pages, ntf ts .depth, atf ts with
  | some n, some k, some s, some p, some d, some a => some ⟨n, s, k.1, k.2, p, a, d⟩
  | _, _, _, _, _, _ => none
def ffM (ls : List (List Tm)) (ps : List Bts) (tb : List (List Bool × Bts)) : Option Fx := ls.findSome? fun ts => fft ts ps tb
structure lsOk (ts : List Tm) (ps : List Bts) : Prop where
  len : ts.length ≤ 19
  wf : ∀ t ∈ ts, t.body.wf
  pat : patsIn ts ps
theorem none_dO {α : Type} (g : α → PyData) (hg : ∀ a, isNone (g a) = false) (o : Option α) : isNone (dO g o) = o.isNone := by
  cases o with
  | none => rfl
  | some a => exact hg a
theorem findS_at {α β : Type} {f : α → Option β} : ∀ {xs : List α} {n : Nat} {a : α} {b : β}, xs[n]? = some a → (∀ x ∈ xs.take n, f x = none) → f a = some b → xs.findSome? f = some b
  | [], n, a, b, h, _, _ => by simp at h
  | x :: xs, 0, a, b, h, _, hq => by
    simp at h
    subst h
    simp [hq]
  | x :: xs, n + 1, a, b, h, h1, hq => by
    have hx := h1 x (by simp)
    rw [List.findSome?_cons, hx]
    exact findS_at (n := n) (by simpa using h) (fun b hb => h1 b (by simp [hb])) hq
section
variable {P : Program} {w : World} {K : PySem.W.Frag} {mg : Str → Option Value} {base : Heap}
def d_facts_that_fit (w : World) : List PyData → PyData → Prop := fun ds r => ∃ (ts : List Tm) (ps : List Bts) (tb : List (List Bool × Bts)), lsOk ts ps ∧ tbOk ps tb ∧ ds = [.list (ts.map dT), .list (ps.map dNs), dTb w tb] ∧ r = dO dF (fft ts ps tb)
theorem w_facts_that_fit {f : Addr} {fd : FuncData} (Fn : FnP K "facts_that_fit" s_facts_that_fit f fd) (hm : mg "facts_that_fit" = some (.ref f)) (f1 : FnF P w K mg base "number_that_fits" 6 d_number_that_fits) (f2 : FnF P w K mg base "name_that_fits" 2 (d_name_that_fits w)) (f3 : FnF P w K mg base "kinds_that_fit" 6 d_kinds_that_fit) (f4 : FnF P w K mg base "acts_that_fit" 6 d_acts_that_fit) : FnF P w K mg base "facts_that_fit" 7 (d_facts_that_fit w) := by
  refine fn_mk Fn hm c_facts_that_fit (fun ds r ⟨_, _, _, _, _, h, _⟩ => by rw [h]; rfl) (fun _ _ _ _ _ _ us hl => match us, hl with | [_, _, _], _ => rfl) fun X F xd ds r ⟨ts, ps, tb, ok, tok, h, hr⟩ => ?_
  subst h hr
  have l20 : ts.length ≤ 20 := by have := ok.len; omega
  refine setLcA F xd 3 4 [NF.size, .pages, .depth] (fun g => .str g.str) (src_tup (tu3 e_str e_str e_str)) (fun g => dO .int (ntf ts g)) (fun Y FY g hg => ca2 FY f1 (nm FY 0) (nm FY 4) ⟨ts, g, l20, ok.wf, by rintro rfl; simp at hg, rfl, rfl⟩) (by decide) ?_
  refine set_ F xd 5 (ca3 F f2 (nm F 0) (nm F 1) (nm F 2) ⟨ts, ps, tb, l20, ok.pat, tok, rfl, rfl⟩) ?_
  refine set_ F xd 6 (ca1 F f3 (nm F 0) ⟨ts, l20, ok.wf, rfl, rfl⟩) ?_
  simp only [List.set_cons_succ, List.set_cons_zero, List.map_cons, List.map_nil]
  unfold fft
  generalize hn : nfit ts ps tb = on
  generalize hk : ktf ts = ok1
  generalize ntf ts .size = os
  generalize ntf ts .pages = op
  generalize ntf ts .depth = od
  have hfl : ([dO PyData.int os, dO PyData.int op, dO PyData.int od]).map flatD = ([os, op, od].map fun o : Option Int => match o with | none => V.non | some i => V.int i).map some := by
    cases os <;> cases op <;> cases od <;> rfl
  refine when_ (v := on.isNone || (ok1.isNone || (os.isNone || (op.isNone || od.isNone)))) (tw_t (tw_or (t_cast (t_is (nm F 5)) (none_dO _ (fun _ => rfl) on)) fun _ => tw_or (t_cast (t_is (nm F 6)) (none_dO _ (fun _ => rfl) ok1)) fun _ => tw_or1 (t_cast (t_in e_none (nm F 3) rfl rfl hfl) ?_))) (fun h => ret e_none ?_) (fun h => ?_)
  · cases os <;> cases op <;> cases od <;> rfl
  · cases on <;> cases ok1 <;> cases os <;> cases op <;> cases od <;> first | rfl | cases h
  cases on with
  | none => cases h
  | some n =>
  cases ok1 with
  | none => cases h
  | some kk =>
  cases os with
  | none => cases h
  | some s =>
  cases op with
  | none => cases h
  | some pg =>
  cases od with
  | none => cases h
  | some dp =>
  refine set_ F xd 7 (ca1 F f4 (nm F 0) ⟨ts, ok.len, ok.wf, rfl, rfl⟩) ?_
  generalize atf ts = oa
  refine when_ (t_cast (t_is (nm F 7)) (none_dO _ (fun _ => rfl) oa)) (fun h => ret e_none ?_) (fun h => ?_)
  · cases oa with
    | none => rfl
    | some a => cases h
  cases oa with
  | none => cases h
  | some a =>
    have ek : ∀ {pos s3 s4}, E X [.dat (.list (ts.map dT)), .dat (.list (ps.map dNs)), .dat (dTb w tb), s3, s4, .dat (dO dNs (some n)), .dat (dO dKK (some kk)), .dat (dO dAs (some a))] (.Name "kinds" pos) (.tuple [.str kk.1.str, dKs kk.2]) := fun {_ _ _} => nm F 6
    have en : ∀ {pos s4}, E X [.dat (.list (ts.map dT)), .dat (.list (ps.map dNs)), .dat (dTb w tb), .dat (.list [dO .int (some s), dO .int (some pg), dO .int (some dp)]), s4, .dat (dO dNs (some n)), .dat (dO dKK (some kk)), .dat (dO dAs (some a))] (.Name "numbers" pos) (.list [.int s, .int pg, .int dp]) := fun {_ _} => nm F 3
    exact ret (e_tup (as_cons (nm F 5) (as_cons (e_ixL en e_int rfl) (as_cons (e_ixT ek e_int rfl) (as_cons (e_ixT ek e_int rfl) (as_cons (e_ixL en e_int rfl) (as_cons (nm F 7) (as_cons (e_ixL en e_int rfl) as_nil))))))) (by simp)) rfl
def d_first_facts (w : World) : List PyData → PyData → Prop := fun ds r => ∃ (ls : List (List Tm)) (ps : List Bts) (tb : List (List Bool × Bts)), (∀ ts ∈ ls, lsOk ts ps) ∧ tbOk ps tb ∧ ds = [.list (ls.map dW), .list (ps.map dNs), dTb w tb] ∧ r = dO dF (ffM ls ps tb)
theorem w_first_facts {f : Addr} {fd : FuncData} (Fn : FnP K "first_facts" s_first_facts f fd) (hm : mg "first_facts" = some (.ref f)) (f1 : FnF P w K mg base "facts_that_fit" 7 (d_facts_that_fit w)) : FnF P w K mg base "first_facts" 8 (d_first_facts w) := by
  refine fn_mk Fn hm c_first_facts (fun ds r ⟨_, _, _, _, _, h, _⟩ => by rw [h]; rfl) (fun _ _ _ _ _ _ us hl => match us, hl with | [_, _, _], _ => rfl) fun X F xd ds r ⟨ls, ps, tb, ok, tok, h, hr⟩ => ?_
  subst h hr
  refine forN F xd 3 ls dW (src_list (nm F 0)) (fun n Γ' => (∀ ts ∈ ls.take n, fft ts ps tb = none) ∧ ∃ s3 s4, Γ' = [.dat (.list (ls.map dW)), .dat (.list (ps.map dNs)), .dat (dTb w tb), s3, s4]) ⟨by simp, .un, .un, rfl⟩ ?_ ?_
  · rintro n ts Γ' hx ⟨hall, s3, s4, rfl⟩
    refine set_ F xd 4 (ca3 F f1 (nm F 3) (nm F 1) (nm F 2) ⟨ts, ps, tb, ok ts (List.mem_of_getElem? hx), tok, rfl, rfl⟩) ?_
    refine when_ (t_cast (t_isnt (nm F 4)) (congrArg _ (none_dO _ (fun _ => rfl) _))) (fun h => ret (nm F 4) ?_) (fun h => ss_nil ⟨fun t ht => ?_, _, _, rfl⟩)
    · cases q : fft ts ps tb with
      | none => rw [q] at h; cases h
      | some x =>
        unfold ffM
        rw [findS_at hx hall q]
    · rw [take_snoc hx, List.mem_append] at ht
      rcases ht with ht | ht
      · exact hall t ht
      · simp at ht
        subst ht
        cases q : fft t ps tb with
        | none => rfl
        | some x => rw [q] at h; cases h
  · rintro Γ' ⟨hall, s3, s4, rfl⟩
    refine ret e_none ?_
    rw [List.take_length] at hall
    have : ffM ls ps tb = none := List.findSome?_eq_none_iff.mpr hall
    rw [this]
    rfl
end
end Z
set_option Elab.async false
set_option linter.all false
set_option maxRecDepth 100000
set_option maxHeartbeats 4000000
namespace Z
open PySem PySem.Spec PyProof.Rows L2 Evl
/-! ### shadowed, difference -/
def okP (ps : List Bts) : Prop := ps.length ≤ 100 ∧ (∀ p ∈ ps, p.length ≤ 20 ∧ ∀ b ∈ p, b ∈ ([97, 98, 42, 46] : List Nat)) ∧ ∀ l : List Sts, l.Nodup → (∀ s ∈ l, ∃ nm : Bts, s = nm.foldl (mvS ps) (stS ps)) → l.length ≤ 512
def d_name_table (w : World) : List PyData → PyData → Prop := fun ds r => ∃ ps : List Bts, okP ps ∧ ds = [.list (ps.map dNs)] ∧ r = dTb w (ntb ps)
theorem addP_mem {acc : List Bts} {t : Tm} {q : Bts} : q ∈ addP acc t ↔ q ∈ acc ∨ t.body = .nam q := by
  obtain ⟨ng, b⟩ := t
  cases b with
  | nam p =>
    simp only [addP, Bd.nam.injEq]
    split
    · rename_i h
      constructor
      · exact .inl
      · rintro (h1 | rfl)
        · exact h1
        · exact h
    · rw [List.mem_append, List.mem_singleton]
      exact or_congr Iff.rfl ⟨fun e => e.symm, fun e => e.symm⟩
  | num f s n => simp [addP]
  | isk k => simp [addP]
  | could k => simp [addP]
  | act k => simp [addP]
theorem patsR_mem {r : Rl} {acc : List Bts} {q : Bts} : q ∈ patsR acc r ↔ q ∈ acc ∨ ∃ t ∈ r.ts, t.body = .nam q := by
  unfold patsR
  induction r.ts generalizing acc with
  | nil => simp
  | cons t ts ih =>
    rw [List.foldl_cons, ih, addP_mem]
    simp only [List.mem_cons, exists_eq_or_imp]
    exact or_assoc
theorem patsP_mem {p : List Rl} {acc : List Bts} {q : Bts} : q ∈ patsP acc p ↔ q ∈ acc ∨ ∃ r ∈ p, ∃ t ∈ r.ts, t.body = .nam q := by
  unfold patsP
  induction p generalizing acc with
  | nil => simp
  | cons t ts ih =>
    rw [List.foldl_cons, ih, patsR_mem]
    simp only [List.mem_cons, exists_eq_or_imp]
    exact or_assoc
theorem patsM_mem {ps : List (List Rl)} {q : Bts} : q ∈ patsM ps ↔ ∃ p ∈ ps, ∃ r ∈ p, ∃ t ∈ r.ts, t.body = .nam q := by
  have : ∀ acc : List Bts, q ∈ ps.foldl patsP acc ↔ q ∈ acc ∨ ∃ p ∈ ps, ∃ r ∈ p, ∃ t ∈ r.ts, t.body = .nam q := fun acc => by
    induction ps generalizing acc with
    | nil => simp
    | cons t ts ih =>
      rw [List.foldl_cons, ih, patsP_mem]
      simp only [List.mem_cons, exists_eq_or_imp]
      exact or_assoc
  unfold patsM
  rw [this]
  simp
theorem neg_src : ∀ (p : List Rl) (acc : List (List Tm)) (Q : Tm → Prop), (∀ w ∈ acc, ∀ t ∈ w, Q t) → (∀ r ∈ p, ∀ t ∈ r.ts, Q (turnM t)) → ∀ w ∈ p.foldl negS acc, ∀ t ∈ w, Q t
  | [], acc, Q, h, _ => h
  | r :: p, acc, Q, h, hp => neg_src p (negS acc r) Q (fun w hw t ht => by
      unfold negS at hw
      simp only [List.mem_flatMap, List.mem_map] at hw
      obtain ⟨w0, h0, t0, ht0, rfl⟩ := hw
      rcases List.mem_append.mp ht with ht | ht
      · exact h w0 h0 t ht
      · simp at ht
        rw [ht]
        exact hp r (by simp) t0 ht0) (fun r' hr => hp r' (by simp [hr]))
theorem ways_src {p : List Rl} {i : Int} (Q : Tm → Prop) (h1 : ∀ r ∈ p, ∀ t ∈ r.ts, Q t) (h2 : ∀ r ∈ p, ∀ t ∈ r.ts, Q (turnM t)) : ∀ w ∈ waysM p i, ∀ t ∈ w, Q t := fun w hw t ht => by
  unfold waysM at hw
  split at hw
  · split at hw
    · rename_i r hr
      obtain ⟨w0, h0, rfl⟩ := List.mem_map.mp hw
      rcases List.mem_append.mp ht with ht | ht
      · exact neg_src (p.take i.toNat) [[]] Q (by simp) (fun r' hr' => h2 r' (List.mem_of_mem_take hr')) w0 h0 t ht
      · exact h1 r (List.mem_of_getElem? hr) t ht
    · exact neg_src p [[]] Q (by simp) h2 w hw t ht
  · exact neg_src p [[]] Q (by simp) h2 w hw t ht
theorem ways_len {p : List Rl} (sm : small p) (i : Int) : (waysM p i).length ≤ 81 := by
  unfold waysM negW
  have h := negs_le sm p.length
  rw [List.take_length] at h
  split
  · split
    · rw [List.length_map]
      exact negs_le sm _
    · exact h
  · exact h
theorem ways_each {p : List Rl} (sm : small p) (i : Int) : ∀ w ∈ waysM p i, w.length ≤ 7 := fun w hw => by
  unfold waysM negW at hw
  have h := negs_in sm p.length
  rw [List.take_length] at h
  split at hw
  · split at hw
    · rename_i r hr
      obtain ⟨w0, h0, rfl⟩ := List.mem_map.mp hw
      have := negs_in sm _ w0 h0
      have := sm.t r (List.mem_of_getElem? hr)
      rw [List.length_append]
      omega
    · have := h w hw
      omega
  · have := h w hw
    omega
theorem ways_ok {p : List Rl} {ps : List (List Rl)} (hp : p ∈ ps) (sm : small p) (wf : wfPol p) (i : Int) : ∀ w ∈ waysM p i, w.length ≤ 7 ∧ (∀ t ∈ w, t.body.wf) ∧ patsIn w (patsM ps) := fun w hw => by
  refine ⟨ways_each sm i w hw, ways_src (fun t => t.body.wf) (fun r hr t ht => ?_) (fun r hr t ht => ?_) w hw, ways_src (fun t => ∀ q, t.body = .nam q → q ∈ patsM ps) (fun r hr t ht q e => ?_) (fun r hr t ht q e => ?_) w hw⟩
  · exact (wf.2 r hr).2 t ht
  · exact (wf.2 r hr).2 t ht
  · exact patsM_mem.mpr ⟨p, hp, r, hr, t, ht, e⟩
  · exact patsM_mem.mpr ⟨p, hp, r, hr, t, ht, e⟩
theorem tb_ok (ps : List Bts) : tbOk ps (ntb ps) := ⟨ntb_len ps, ntb_nodup ps⟩
def shM (p : List Rl) : List Nat := (List.range p.length).filter fun i => (ffM (waysM p i) (patsM [p]) (ntb (patsM [p]))).isNone
theorem nT_small : ∀ (p : List Rl), (∀ r ∈ p, r.ts.length ≤ 3) → (p.map fun r => r.ts.length).sum ≤ 3 * p.length
  | [], _ => by simp
  | r :: p, h => by
    have h1 := h r (by simp)
    have h2 := nT_small p fun r hr => h r (by simp [hr])
    simp only [List.map_cons, List.sum_cons, List.length_cons]
    omega
section
variable {P : Program} {w : World} {K : PySem.W.Frag} {mg : Str → Option Value} {base : Heap}
def d_shadowed : List PyData → PyData → Prop := fun ds r => ∃ p : List Rl, wfPol p ∧ small p ∧ okP (patsM [p]) ∧ ds = [dP p] ∧ r = .list ((shM p).map dN)
theorem w_shadowed {f : Addr} {fd : FuncData} (Fn : FnP K "shadowed" s_shadowed f fd) (hm : mg "shadowed" = some (.ref f)) (bn : BN mg) (f1 : FnF P w K mg base "check" 8 d_check) (f2 : FnF P w K mg base "patterns_of" 1 d_patterns_of) (f3 : FnF P w K mg base "name_table" 5 (d_name_table w)) (f4 : FnF P w K mg base "first_facts" 8 (d_first_facts w)) (f5 : FnF P w K mg base "ways" 2 d_ways) : FnF P w K mg base "shadowed" 9 d_shadowed := by
  refine fn_mk Fn hm c_shadowed (fun ds r ⟨_, _, _, _, h, _⟩ => by rw [h]; rfl) (fun _ _ _ _ _ _ us hl => match us, hl with | [_], _ => rfl) fun X F xd ds r ⟨p, wf, sm, ok, h, hr⟩ => ?_
  subst h hr
  have hnT : nTerms [p] ≤ 1000 := by
    have := nT_small p sm.t
    have := sm.r
    simp [nTerms]
    omega
  refine ss_cons (s_expr (ca1 F f1 (li1 (nm F 0)) ⟨[p], by simpa using wf, rfl, rfl⟩) ?_)
  refine set_ F xd 1 (ca1 F f2 (li1 (nm F 0)) ⟨[p], hnT, rfl, rfl⟩) ?_
  refine set_ F xd 2 (ca1 F f3 (nm F 1) ⟨_, ok, rfl, rfl⟩) ?_
  refine ret (lcN F 3 (List.range p.length) (fun (i : Nat) => .int (0 + (i : Int))) ?_ (fun i => (ffM (waysM p i) (patsM [p]) (ntb (patsM [p]))).isNone) (fun (i : Nat) => .int (0 + (i : Int))) (fun Y FY i hi => .one ?_) (fun Y FY i hi _ => nm FY 3) (by have := sm.r; simp; omega)) ?_
  · exact src_rng1 F bn (n := (p.length : Nat)) (e_cast (e_lenT F bn (ds := p.map dR) (nm F 0) rfl) (by simp)) (by omega) (by have := sm.r; omega) rfl
  · refine t_cast (t_is (ca3 FY f4 (ca2 FY f5 (nm FY 0) (nm FY 3) ⟨p, 0 + (i : Int), sm, rfl, rfl⟩) (nm FY 1) (nm FY 2) ⟨waysM p (0 + (i : Int)), _, _, fun ts hts => ?_, tb_ok _, rfl, rfl⟩)) ?_
    · obtain ⟨g1, g2, g3⟩ := ways_ok (ps := [p]) (by simp) sm wf _ ts hts
      exact ⟨by omega, g2, g3⟩
    · rw [none_dO _ (fun _ => rfl), show (0 + (i : Int)) = i by omega]
  · show PyData.list _ = PyData.list _
    congr 1
    exact List.map_congr_left fun i _ => by show PyData.int (0 + (i : Int)) = PyData.int i; rw [show (0 + (i : Int)) = i by omega]
end
def fitM (a : List Rl) (i : Int) (ps : List Bts) (tb : List (List Bool × Bts)) : List (List Tm) := (waysM a i).filter fun w => (fft w ps tb).isSome
def lisM (a b : List Rl) (i j : Int) (ps : List Bts) (tb : List (List Bool × Bts)) : List (List Tm) := (fitM a i ps tb).flatMap fun w => (waysM b j).map fun u => w ++ u
def difJ (a b : List Rl) (ps : List Bts) (tb : List (List Bool × Bts)) (i : Int) (j : Nat) : Option Fx := if vdM a i = vdM b (-1 + (j : Int)) then none else ffM (lisM a b i (-1 + (j : Int)) ps tb) ps tb
def difI (a b : List Rl) (ps : List Bts) (tb : List (List Bool × Bts)) (i : Nat) : Option Fx := (List.range (b.length + 1)).findSome? (difJ a b ps tb (-1 + (i : Int)))
def dfM (a b : List Rl) : Option Fx := (List.range (a.length + 1)).findSome? (difI a b (patsM [a, b]) (ntb (patsM [a, b])))
section
variable {P : Program} {w : World} {K : PySem.W.Frag} {mg : Str → Option Value} {base : Heap}
theorem src_rngm {X : Cx} {N : List Str} {sc : Scope} {k : Nat} {Γ : List Sl} {tg a b : Expr} {pos p : Pos} (F : XF X P w K mg base N sc k) (bn : BN mg) {n : Nat} (ha : E X Γ a (.int (-1))) (hb : E X Γ b (.int (n : Nat))) (hn : n ≤ 1000) (hg : glB sc "range" = true := by rfl)
    (hs : starEach [a, b] X.env = [(false, eval a X.env), (false, eval b X.env)] := by rfl) (hs2 : starEach [b] X.env = [(false, eval b X.env)] := by rfl) : Src X Γ tg (.Call (.Name "range" p) [a, b] [] pos) ((List.range (n + 1)).map fun (i : Nat) => .int (-1 + (i : Int))) := by
  have := src_rng2 (tg := tg) (pos := pos) (p := p) F bn ha hb (by omega) (by omega) (by omega) (by omega) hg hs hs2
  unfold rngD at this
  rwa [show ((n : Int) - (-1)).toNat = n + 1 by omega] at this
def d_difference : List PyData → PyData → Prop := fun ds r => ∃ a b : List Rl, wfPol a ∧ small a ∧ wfPol b ∧ small b ∧ okP (patsM [a, b]) ∧ ds = [dP a, dP b] ∧ r = dO dF (dfM a b)
theorem w_difference {f : Addr} {fd : FuncData} (Fn : FnP K "difference" s_difference f fd) (hm : mg "difference" = some (.ref f)) (bn : BN mg) (f1 : FnF P w K mg base "check" 8 d_check) (f2 : FnF P w K mg base "patterns_of" 1 d_patterns_of) (f3 : FnF P w K mg base "name_table" 5 (d_name_table w)) (f4 : FnF P w K mg base "first_facts" 8 (d_first_facts w)) (f5 : FnF P w K mg base "ways" 2 d_ways) (f6 : FnF P w K mg base "facts_that_fit" 7 (d_facts_that_fit w)) (f7 : FnF P w K mg base "verdict_of" 1 d_verdict_of) : FnF P w K mg base "difference" 9 d_difference := by
  refine fn_mk Fn hm c_difference (fun ds r ⟨_, _, _, _, _, _, _, h, _⟩ => by rw [h]; rfl) (fun _ _ _ _ _ _ us hl => match us, hl with | [_, _], _ => rfl) fun X F xd ds r ⟨a, b, wfa, sma, wfb, smb, ok, h, hr⟩ => ?_
  subst h hr
  have hnT : nTerms [a, b] ≤ 1000 := by
    have := nT_small a sma.t
    have := sma.r
    have := nT_small b smb.t
    have := smb.r
    simp [nTerms]
    omega
  have wa : ∀ i, ∀ ts ∈ waysM a i, ts.length ≤ 7 ∧ (∀ t ∈ ts, t.body.wf) ∧ patsIn ts (patsM [a, b]) := fun i => ways_ok (ps := [a, b]) (by simp) sma wfa i
  have wb : ∀ i, ∀ ts ∈ waysM b i, ts.length ≤ 7 ∧ (∀ t ∈ ts, t.body.wf) ∧ patsIn ts (patsM [a, b]) := fun i => ways_ok (ps := [a, b]) (by simp) smb wfb i
  refine ss_cons (s_expr (ca1 F f1 (li2 (nm F 0) (nm F 1)) ⟨[a, b], by simpa using ⟨wfa, wfb⟩, rfl, rfl⟩) ?_)
  refine set_ F xd 2 (ca1 F f2 (li2 (nm F 0) (nm F 1)) ⟨[a, b], hnT, rfl, rfl⟩) ?_
  refine set_ F xd 3 (ca1 F f3 (nm F 2) ⟨_, ok, rfl, rfl⟩) ?_
  unfold dfM
  have tok := tb_ok (patsM [a, b])
  generalize patsM [a, b] = ps at ok wa wb tok
  generalize ntb ps = tb at tok
  refine forN F xd 4 (List.range (a.length + 1)) (fun (i : Nat) => .int (-1 + (i : Int))) ?_ (fun n Γ' => (∀ i ∈ (List.range (a.length + 1)).take n, difI a b ps tb i = none) ∧ ∃ s4 s5 s6 s7 s8 s9 s10, Γ' = [.dat (dP a), .dat (dP b), .dat (.list (ps.map dNs)), .dat (dTb w tb), s4, s5, s6, s7, s8, s9, s10]) ⟨by simp, .un, .un, .un, .un, .un, .un, .un, rfl⟩ ?_ ?_
  · exact src_rngm F bn (e_neg e_int) (e_cast (e_lenT F bn (ds := a.map dR) (nm F 0) rfl) (by simp)) (by have := sma.r; omega)
  · rintro n i Γ' hi ⟨hall, s4, s5, s6, s7, s8, s9, s10, rfl⟩
    have hin : i < a.length + 1 := by
      have := List.mem_of_getElem? hi
      simpa using this
    have hfl : (fitM a (-1 + (i : Int)) ps tb).length ≤ 81 := Nat.le_trans (List.length_filter_le _ _) (ways_len sma _)
    have hfm : ∀ ts ∈ fitM a (-1 + (i : Int)) ps tb, ts ∈ waysM a (-1 + (i : Int)) := fun ts ht => (List.mem_filter.mp ht).1
    have hI : difI a b ps tb i = (List.range (b.length + 1)).findSome? (difJ a b ps tb (-1 + (i : Int))) := rfl
    have hiI : -1 + (i : Int) < a.length := by omega
    refine setLcN F xd 5 6 (waysM a (-1 + (i : Int))) dW (src_list (ca2 F f5 (nm F 0) (nm F 4) ⟨a, _, sma, rfl, rfl⟩)) (fun t => (fft t ps tb).isSome) dW (fun Y FY t ht => .one (t_cast (t_isnt (ca3 FY f6 (nm FY 6) (nm FY 2) (nm FY 3) ⟨t, ps, tb, ?_, tok, rfl, rfl⟩)) ?_)) (fun Y FY t ht _ => nm FY 6) (by have := ways_len sma (-1 + (i : Int)); omega) ?_
    · obtain ⟨g1, g2, g3⟩ := wa _ t ht
      exact ⟨by omega, g2, g3⟩
    · rw [none_dO _ (fun _ => rfl)]
      cases fft t ps tb <;> rfl
    refine forN F xd 7 (List.range (b.length + 1)) (fun (j : Nat) => .int (-1 + (j : Int))) ?_ (fun m Γ' => (∀ j ∈ (List.range (b.length + 1)).take m, difJ a b ps tb (-1 + (i : Int)) j = none) ∧ ∃ s6 s7 s8 s9 s10, Γ' = [.dat (dP a), .dat (dP b), .dat (.list (ps.map dNs)), .dat (dTb w tb), .dat (.int (-1 + (i : Int))), .dat (.list ((fitM a (-1 + (i : Int)) ps tb).map dW)), s6, s7, s8, s9, s10]) ⟨by simp, _, _, _, _, _, rfl⟩ ?_ ?_
    · exact src_rngm F bn (e_neg e_int) (e_cast (e_lenT F bn (ds := b.map dR) (nm F 1) rfl) (by simp)) (by have := smb.r; omega)
    · rintro m j Γ' hj ⟨hin2, s6, s7, s8, s9, s10, rfl⟩
      have hjn : j < b.length + 1 := by
        have := List.mem_of_getElem? hj
        simpa using this
      have hjJ : -1 + (j : Int) < b.length := by omega
      have stp : difJ a b ps tb (-1 + (i : Int)) j = none → ∀ x ∈ (List.range (b.length + 1)).take (m + 1), difJ a b ps tb (-1 + (i : Int)) x = none := fun h x hx => by
        rw [take_snoc hj, List.mem_append] at hx
        rcases hx with hx | hx
        · exact hin2 x hx
        · simp at hx
          rw [hx]
          exact h
      refine when_ (v := !decide (vdM a (-1 + (i : Int)) = vdM b (-1 + (j : Int)))) (t_cast (t_ne (ca2 F f7 (nm F 0) (nm F 4) ⟨a, _, hiI, rfl, rfl⟩) (ca2 F f7 (nm F 1) (nm F 7) ⟨b, _, hjJ, rfl, rfl⟩) (.str _ _)) (by rw [vd_dec])) (fun h => ?_) (fun h => ss_nil ⟨stp ?_, _, _, _, _, _, rfl⟩)
      · have hne : ¬ vdM a (-1 + (i : Int)) = vdM b (-1 + (j : Int)) := by simpa using h
        have hdj : difJ a b ps tb (-1 + (i : Int)) j = ffM (lisM a b (-1 + (i : Int)) (-1 + (j : Int)) ps tb) ps tb := by simp [difJ, hne]
        refine ss_lose 6 (ss_lose 8 (ss_lose 9 (ss_lose 10 ?_)))
        refine setLc2E F xd 8 6 9 (fitM a (-1 + (i : Int)) ps tb) dW (fun _ => waysM b (-1 + (j : Int))) dW (src_list (nm F 5)) (by omega) (fun _ _ => by have := ways_len smb (-1 + (j : Int)); omega) (fun w u => dW (w ++ u)) (fun Y FY ts hts => ca2 FY f5 (nm FY 1) (nm FY 7) ⟨b, _, smb, rfl, rfl⟩) (fun _ _ => rfl) (fun Y FY ts hts u hu => ?_) ?_
        · have e : dW (ts ++ u) = .list (ts.map dT ++ (u.map dT ++ [])) := by simp [dW]
          rw [e]
          have := (wa _ ts (hfm ts hts)).1
          have := (wb _ u hu).1
          exact e_list (as_star (nm FY 6) rfl (as_star (nm FY 9) rfl as_nil)) (by simp; omega)
        have hls : (fitM a (-1 + (i : Int)) ps tb).flatMap (fun w => (waysM b (-1 + (j : Int))).map fun u => dW (w ++ u)) = (lisM a b (-1 + (i : Int)) (-1 + (j : Int)) ps tb).map dW := by simp [lisM, List.map_flatMap, List.map_map, Function.comp_def]
        rw [hls]
        refine set_ F xd 10 (ca3 F f4 (nm F 8) (nm F 2) (nm F 3) ⟨lisM a b (-1 + (i : Int)) (-1 + (j : Int)) ps tb, ps, tb, fun ts hts => ?_, tok, rfl, rfl⟩) ?_
        · simp only [lisM, List.mem_flatMap, List.mem_map] at hts
          obtain ⟨t1, ht1, t2, ht2, rfl⟩ := hts
          obtain ⟨g1, g2, g3⟩ := wa _ t1 (hfm t1 ht1)
          obtain ⟨g4, g5, g6⟩ := wb _ t2 ht2
          refine ⟨by rw [List.length_append]; omega, fun t ht => ?_, fun t ht => ?_⟩
          · rcases List.mem_append.mp ht with ht | ht
            · exact g2 t ht
            · exact g5 t ht
          · rcases List.mem_append.mp ht with ht | ht
            · exact g3 t ht
            · exact g6 t ht
        refine when_ (t_cast (t_isnt (nm F 10)) (congrArg _ (none_dO _ (fun _ => rfl) _))) (fun h2 => ret (nm F 10) ?_) (fun h2 => ss_nil (ss_nil ?_))
        · cases q : ffM (lisM a b (-1 + (i : Int)) (-1 + (j : Int)) ps tb) ps tb with
          | none => rw [q] at h2; cases h2
          | some x =>
            have h1 : difI a b ps tb i = some x := by
              rw [hI]
              exact findS_at hj hin2 (hdj.trans q)
            rw [findS_at hi hall h1]
        · refine ⟨stp ?_, _, _, _, _, _, rfl⟩
          rw [hdj]
          cases q : ffM (lisM a b (-1 + (i : Int)) (-1 + (j : Int)) ps tb) ps tb with
          | none => rfl
          | some x => rw [q] at h2; cases h2
      · have he : vdM a (-1 + (i : Int)) = vdM b (-1 + (j : Int)) := by simpa using h
        simp [difJ, he]
    · rintro Γ' ⟨hin2, s6, s7, s8, s9, s10, rfl⟩
      rw [List.take_length] at hin2
      refine ss_nil ⟨fun x hx => ?_, _, _, _, _, _, _, _, rfl⟩
      rw [take_snoc hi, List.mem_append] at hx
      rcases hx with hx | hx
      · exact hall x hx
      · simp at hx
        rw [hx, hI]
        exact List.findSome?_eq_none_iff.mpr hin2
  · rintro Γ' ⟨hall, s4, s5, s6, s7, s8, s9, s10, rfl⟩
    refine ret e_none ?_
    rw [List.take_length] at hall
    rw [List.findSome?_eq_none_iff.mpr hall]
    rfl
end
end Z
set_option Elab.async false
set_option linter.all false
set_option maxRecDepth 100000
set_option maxHeartbeats 2000000
/-! A set comprehension of two clauses, of ints (HandS.Comp's rule for a list's, turned to sets). -/
namespace Z
open PySem PySem.Spec PyProof.Rows L2 Evl
/-- set.add of an int -/
theorem addI_ok {X : Cx} {pins : List (Addr × Obj)} {σ : L2.St} {H : Hp} {s : Shared} {E : Value → Shared → Prop} {D : Addr} {S : Int → Bool} {n : Nat} {y : Int} {tk : Tok} {Q : Value → Shared → Prop} (I : Inv X pins σ H s) (hD : H D = some (SetO X.w D S n)) (room : n + 1 < scanBound)
    (h : ∀ s', Inv X pins σ (upd H D (SetO X.w D (fun j => S j || decide (j = y)) (if S y = true then n else n + 1))) s' → Q .none s') : wpAny (model X.prog X.w) X.A (call (.builtin "set.add") [.ref D, .int y tk]) Q E s := by
  refine setR_add (setO_get I hD) room fun h' sb new => ?_
  obtain ⟨o, _, _, _, ho, _⟩ := id new
  exact h _ (I.write (e := D) (t' := s.toks + 1) (by rw [hD]; trivial) (.inl rfl) (fun b u hb hu => (sb.2 b hb).trans hu) ⟨o, ho⟩ (setO_new new))
theorem compTurn2_outS (elt t0 i0 t1 i1 : Expr) (ifs0 ifs1 : List Expr) (scope : Scope) (pos : Pos) (it acc : Value) (env : Env) :
    compTurn (.SetComp elt [⟨t0, i0, ifs0, 0⟩, ⟨t1, i1, ifs1, 0⟩] scope pos) 0 it acc env = (do
      standAt i0.pos
      match ← pyNext it with
      | none => pure (.done .next)
      | some v =>
        letOwnedTupleGo t0 it v
        assign t0 env v
        let mut ok := true
        for c in ifs0 do
          if ok then ok ← isTrue c env (eval c env)
        if ok then
          let x ← eval i1 env
          standAt i1.pos
          let x ← foldedSetIterable i1 env x
          let _ ← runOwn (.compStart (.SetComp elt [⟨t0, i0, ifs0, 0⟩, ⟨t1, i1, ifs1, 0⟩] scope pos) 1 (← holding [x] (pyIter x)) acc env) env
        again (.compLoop (.SetComp elt [⟨t0, i0, ifs0, 0⟩, ⟨t1, i1, ifs1, 0⟩] scope pos) 0 it acc env)) := by rfl
theorem compTurn2_inS (elt t0 i0 t1 i1 : Expr) (ifs0 ifs1 : List Expr) (scope : Scope) (pos : Pos) (it acc : Value) (env : Env) :
    compTurn (.SetComp elt [⟨t0, i0, ifs0, 0⟩, ⟨t1, i1, ifs1, 0⟩] scope pos) 1 it acc env = (do
      standAt i1.pos
      match ← pyNext it with
      | none => pure (.done .next)
      | some v =>
        letOwnedTupleGo t1 it v
        assign t1 env v
        let mut ok := true
        for c in ifs1 do
          if ok then ok ← isTrue c env (eval c env)
        if ok then
          (do let v ← eval elt env; standAt elt.pos; let _ ← call (.builtin "set.add") [acc, v])
        again (.compLoop (.SetComp elt [⟨t0, i0, ifs0, 0⟩, ⟨t1, i1, ifs1, 0⟩] scope pos) 1 it acc env)) := by rfl

section
variable {prog : Program} {w : World} {A : Around} {R : Result → Shared → Prop} {s : Shared} {elt t0 i0 t1 i1 : Expr} {ifs0 ifs1 : List Expr} {scope : Scope} {pos : Pos} {it acc : Value} {env : Env}
/-- the loop of the first clause -/
theorem compLoop2_outS (hs : ∀ x, foldedSetIterable i1 env x = pure x) (I : Nat → Shared → Prop)
    (turn : ∀ n s, I n s → wpAny (model prog w) A (pyNext it) (fun r s₁ => match r with
      | none => R (.ok .next) s₁
      | some v => wpAny (model prog w) A (letOwnedTupleGo t0 it v) (fun _ s₁' => wpAny (model prog w) A (assign t0 env v) (fun _ s₂ =>
          wpAny (model prog w) A (forIn ifs0 true fun c r => if r = true then do let ok ← isTrue c env (eval c env); pure (ForInStep.yield ok) else pure (ForInStep.yield r)) (fun ok s₃ =>
            if ok = true then wpAny (model prog w) A (eval i1 env) (fun x s₄ => wpAny (model prog w) A (pyIter x) (fun it1 s₅ =>
              codeAny (model prog w) A (.compStart (.SetComp elt [⟨t0, i0, ifs0, 0⟩, ⟨t1, i1, ifs1, 0⟩] scope pos) 1 it1 acc env) (fun r s' => match r with
                | .ok _ => ∃ m, m < n ∧ I m s'
                | .error _ => False) s₅) (notedBy (model prog w) A env fun e s' => R (.error e) s') s₄) (notedBy (model prog w) A env fun e s' => R (.error e) s') s₃
            else ∃ m, m < n ∧ I m s₃) (notedBy (model prog w) A env fun e s' => R (.error e) s') s₂) (notedBy (model prog w) A env fun e s' => R (.error e) s') s₁') (notedBy (model prog w) A env fun e s' => R (.error e) s') s₁) (notedBy (model prog w) A env fun e s' => R (.error e) s') s)
    (n : Nat) (h : I n s) :
    codeAny (model prog w) A (.compLoop (.SetComp elt [⟨t0, i0, ifs0, 0⟩, ⟨t1, i1, ifs1, 0⟩] scope pos) 0 it acc env) R s := by
  refine codeAny_loop rfl I (fun n s hI => ?_) n h
  show wpAny _ A ((compTurn (.SetComp elt [⟨t0, i0, ifs0, 0⟩, ⟨t1, i1, ifs1, 0⟩] scope pos) 0 it acc env).onRaise (fun x => do noteFrame x env; theTreesLotGoes x)) _ _ s
  refine wpAny_noted ?_
  rw [compTurn2_outS]
  refine wpAny_bind (wpAny_standAt (wpAny_bind (wpAny_mono (turn n s hI) (fun r s₁ h₁ => ?_) fun _ _ h' => h')))
  cases r with
  | none => exact wpAny_pure h₁
  | some v =>
    refine wpAny_bind (wpAny_mono h₁ (fun _ s₁' h₁' => ?_) fun _ _ h' => h')
    refine wpAny_bind (wpAny_mono h₁' (fun _ s₂ h₂ => wpAny_bind (wpAny_mono h₂ (fun ok s₃ h₃ => ?_) fun _ _ h' => h')) fun _ _ h' => h')
    cases ok with
    | false => exact wpAny_pure ⟨rfl, h₃⟩
    | true =>
      refine wpAny_bind (wpAny_mono h₃ (fun x s₄ h₄ => ?_) fun _ _ h' => h')
      refine wpAny_bind (wpAny_standAt (wpAny_bind (wpAny_of_eq (hs x) (wpAny_bind (wpAny_holding (wpAny_mono h₄ (fun it1 s₅ h₅ => ?_) fun _ _ h' => h'))))))
      refine wpAny_bind (wpAny_runOwn ?_)
      rw [Around.mark_none]
      refine codeAny_mono h₅ fun r s' hr => ?_
      cases r with
      | ok f =>
        first
          | exact wpAny_pure ⟨rfl, hr⟩
          | exact wpAny_bind (wpAny_pure (wpAny_pure ⟨rfl, hr⟩))
      | error e => exact hr.elim
/-- the loop of the second -/
theorem compLoop2_inS (I : Nat → Shared → Prop)
    (turn : ∀ n s, I n s → wpAny (model prog w) A (pyNext it) (fun r s₁ => match r with
      | none => R (.ok .next) s₁
      | some v => wpAny (model prog w) A (letOwnedTupleGo t1 it v) (fun _ s₁' => wpAny (model prog w) A (assign t1 env v) (fun _ s₂ =>
          wpAny (model prog w) A (forIn ifs1 true fun c r => if r = true then do let ok ← isTrue c env (eval c env); pure (ForInStep.yield ok) else pure (ForInStep.yield r)) (fun ok s₃ =>
            if ok = true then wpAny (model prog w) A (eval elt env) (fun x s₄ =>
              wpAny (model prog w) A (call (.builtin "set.add") [acc, x]) (fun _ s₅ => ∃ m, m < n ∧ I m s₅) (notedBy (model prog w) A env fun e s' => R (.error e) s') s₄) (notedBy (model prog w) A env fun e s' => R (.error e) s') s₃
            else ∃ m, m < n ∧ I m s₃) (notedBy (model prog w) A env fun e s' => R (.error e) s') s₂) (notedBy (model prog w) A env fun e s' => R (.error e) s') s₁') (notedBy (model prog w) A env fun e s' => R (.error e) s') s₁) (notedBy (model prog w) A env fun e s' => R (.error e) s') s)
    (n : Nat) (h : I n s) :
    codeAny (model prog w) A (.compLoop (.SetComp elt [⟨t0, i0, ifs0, 0⟩, ⟨t1, i1, ifs1, 0⟩] scope pos) 1 it acc env) R s := by
  refine codeAny_loop rfl I (fun n s hI => ?_) n h
  show wpAny _ A ((compTurn (.SetComp elt [⟨t0, i0, ifs0, 0⟩, ⟨t1, i1, ifs1, 0⟩] scope pos) 1 it acc env).onRaise (fun x => do noteFrame x env; theTreesLotGoes x)) _ _ s
  refine wpAny_noted ?_
  rw [compTurn2_inS]
  refine wpAny_bind (wpAny_standAt (wpAny_bind (wpAny_mono (turn n s hI) (fun r s₁ h₁ => ?_) fun _ _ h' => h')))
  cases r with
  | none => exact wpAny_pure h₁
  | some v =>
    refine wpAny_bind (wpAny_mono h₁ (fun _ s₁' h₁' => ?_) fun _ _ h' => h')
    refine wpAny_bind (wpAny_mono h₁' (fun _ s₂ h₂ => wpAny_bind (wpAny_mono h₂ (fun ok s₃ h₃ => ?_) fun _ _ h' => h')) fun _ _ h' => h')
    cases ok with
    | false => exact wpAny_pure ⟨rfl, h₃⟩
    | true =>
      exact wpAny_bind (wpAny_bind (wpAny_mono h₃ (fun x s₄ h₄ => wpAny_bind (wpAny_standAt (wpAny_bind (wpAny_mono h₄ (fun _ s₅ h₅ => wpAny_pure (wpAny_pure ⟨rfl, h₅⟩)) fun _ _ h' => h')))) fun _ _ h' => h'))
/-- the second clause's start -/
theorem compStart1_okS (h0 : codeAny (model prog w) A (.compLoop (.SetComp elt [⟨t0, i0, ifs0, 0⟩, ⟨t1, i1, ifs1, 0⟩] scope pos) 1 it acc env) R s)
    (h : wpAny (model prog w) A (pyIter it) (fun it' s' => codeAny (model prog w) A (.compLoop (.SetComp elt [⟨t0, i0, ifs0, 0⟩, ⟨t1, i1, ifs1, 0⟩] scope pos) 1 it' acc env) R s')
      (notedBy (model prog w) A env fun x s' => R (.error x) s') s) :
    codeAny (model prog w) A (.compStart (.SetComp elt [⟨t0, i0, ifs0, 0⟩, ⟨t1, i1, ifs1, 0⟩] scope pos) 1 it acc env) R s := by
  refine codeAny_of_tree ?_
  show wpAny _ _ ((compStart (.SetComp elt [⟨t0, i0, ifs0, 0⟩, ⟨t1, i1, ifs1, 0⟩] scope pos) 1 it acc env).onRaise (fun x => do noteFrame x env; standAt theWindowsPlace)) _ _ s
  refine wpAny_notedAt ?_
  unfold compStart
  show wpAny _ _ (ask >>= _) _ _ s
  refine wpAny_bind (wpAny_askSetting (wpAny_ite ?_))
  split
  · first
      | exact wpAny_bind (wpAny_pure (wpAny_pure (And.intro rfl h0)))
      | exact wpAny_pure (And.intro rfl h0)
  · first
      | exact wpAny_bind (wpAny_rule (wpAny_bind (wpAny_standAt (wpAny_bind (wpAny_mono h (fun it' s' h' => wpAny_pure (And.intro rfl h')) fun _ _ x => x)))))
      | (refine wpAny_bind (wpAny_rule ?_); show wpAny _ _ (standAt i1.pos >>= _) _ _ s; exact wpAny_bind (wpAny_standAt (wpAny_bind (wpAny_mono h (fun it' s' h' => wpAny_pure (And.intro rfl h')) fun _ _ x => x))))
end

section
variable {X : Cx}
/-- [elt for tg in iter if .. for tg1 in iter1 if ..]: behind the first clause's store and tests the second source's own loop, from which Nx is reached. vs: the block's names; vs1: those of the second target -/
def tSc2 (w : World) (wi : TI) (g : TG) (tt : TT) (wi1 : TI) (g1 : TG) (tt1 : TT) (te : TE) (vs vs1 : List Nat) : TE := fun σ H Q => wi σ H fun J H1 => ∀ D, H1 D = none → ∃ W : Nat → Nat → Hp → Prop, (∃ m, W 0 m (upd H1 D (SetO w D (fun _ => false) 0))) ∧ ∀ i m H, W i m H →
  (J.stop i H ∧ Q (.ref D) H) ∨ (J.go i H ∧ ∃ Nx : Hp → Prop, (∀ H', Nx H' → ∃ m', m' < m ∧ W (i + 1) m' H') ∧ ∀ x H', J.yld i H x H' → g x (wipe σ vs) H' fun σ2 H2 => wipe σ2 vs = wipe σ vs ∧ tt σ2 H2 fun b H3 =>
    if b = true then wi1 σ2 H3 fun J1 H4 => ∃ W1 : Nat → Nat → Hp → Prop, (∃ m, W1 0 m H4) ∧ ∀ j k H, W1 j k H →
      (J1.stop j H ∧ Nx H) ∨ (J1.go j H ∧ ∃ Nx1 : Hp → Prop, (∀ H', Nx1 H' → ∃ k', k' < k ∧ W1 (j + 1) k' H') ∧ ∀ x H', J1.yld j H x H' → g1 x (wipe σ2 vs1) H' fun σ3 H5 => wipe σ3 vs1 = wipe σ2 vs1 ∧ tt1 σ3 H5 fun b H6 =>
        if b = true then te σ3 H6 fun y H7 => ∃ (c : Int) (S : Int → Bool) (n : Nat), y = .int c ∧ H7 D = some (SetO w D S n) ∧ n + 1 < scanBound ∧ Nx1 (upd H7 D (SetO w D (fun j => S j || decide (j = c)) (if S c = true then n else n + 1))) else Nx1 H6)
    else Nx H3)
theorem sc2_core {pins : List (Addr × Obj)} {s : Shared} {σ : L2.St} {H : Hp} {Q : VK} {elt tg iter tg1 iter1 : Expr} {ifs ifs1 : List Expr} {scope : Scope} {own : List (PySem.Str × Nat)} {vs1 : List Nat} {pos pos' : Pos} {wi wi1 : TI} {g g1 : TG} {tt tt1 : TT} {te : TE} {use : Option (Value → Sem Unit)} {Qf : Value → Shared → Prop}
    (hc : X.calm = true) (hN : X.N.Nodup) (I : Inv X pins σ H s) (hi : PI X tg iter wi) (ok : BlkOk X.N X.env.scope scope own) (hv : ∀ i ∈ vs1, i ∈ own.map (·.2))
    (hg : ∀ (s : Shared) (H : Hp) (C : Addr) (cl : List (PySem.Str × Addr)) (fp : List Addr), PG (X.blk s H scope (compEnvC scope cl C X.env) fp) tg g) (ht : ∀ (s : Shared) (H : Hp) (C : Addr) (cl : List (PySem.Str × Addr)) (fp : List Addr), PTs (X.blk s H scope (compEnvC scope cl C X.env) fp) ifs tt)
    (he : ∀ (s : Shared) (H : Hp) (C : Addr) (cl : List (PySem.Str × Addr)) (fp : List Addr), PE (X.blk s H scope (compEnvC scope cl C X.env) fp) elt te) (hs : ∀ x, foldedSetIterable iter X.env x = pure x)
    (hi1 : ∀ (s : Shared) (H : Hp) (C : Addr) (cl : List (PySem.Str × Addr)) (fp : List Addr), PI (X.blk s H scope (compEnvC scope cl C X.env) fp) tg1 iter1 wi1)
    (hg1 : ∀ (s : Shared) (H : Hp) (C : Addr) (cl : List (PySem.Str × Addr)) (fp : List Addr), PG (X.blk s H scope (compEnvC scope cl C X.env) fp) tg1 g1)
    (ht1 : ∀ (s : Shared) (H : Hp) (C : Addr) (cl : List (PySem.Str × Addr)) (fp : List Addr), PTs (X.blk s H scope (compEnvC scope cl C X.env) fp) ifs1 tt1)
    (hs1 : ∀ env x, foldedSetIterable iter1 env x = pure x)
    (h : tSc2 X.w wi g tt wi1 g1 tt1 te (own.map (·.2)) vs1 σ H Q)
    (hRR : ∀ D C s' m H', Inv X pins σ H' s' → Q (.ref D) H' → s'.heap.Ns C m → FpOk X pins H' C → compPost (model X.prog X.w) X.A X.xe use Qf (.ref D) C (.ok .next) s') :
    wpAny (model X.prog X.w) X.A (comprehension (.SetComp elt [⟨tg, iter, ifs, 0⟩, ⟨tg1, iter1, ifs1, 0⟩] scope pos) scope X.env pos' (newSet (.type "set")) false (eval iter X.env) use) Qf X.xe s := by
  have hfree : ∀ y ∈ scope.names, y.2 = .free → ∃ c, X.env.cells.lookup y.1 = some c := fun y hy e => by
    rcases ok.free y hy e with k | k
    · exact I.ok.has _ (.inl k)
    · exact I.ok.has _ (.inr k)
  refine wpAny_comprehension_free (use := use) rfl hs (closure_ok hfree) ok.kind (fun y hy e => by rw [ok.uniq y hy, e])
    (thn (hi.run pins s σ H _ I h) fun xv s1 hx => thn hx fun itv s2 h2 => ?_)
  obtain ⟨it, fp, tn, J, H2, e, I2, T, st2, f2, q⟩ := h2
  subst e
  refine PpSet.newSet_ok (newEnv_comp ?_)
  generalize hD : s2.heap.objs.size = D
  have hDn : H2 D = none := I2.hok.fresh (Nat.le_of_eq hD)
  obtain ⟨W, ⟨m0, w0⟩, turn⟩ := q D hDn
  -- the new list
  generalize hs3 : ({ s2 with heap := s2.heap.push { cls := .type "set", dict := none, data := .set #[] 0 (.fresh 0 0 (!X.w.params.followText "set-order")) } } : Shared) = s3
  have I3 : Inv X pins σ (upd H2 D (SetO X.w D (fun _ => false) 0)) s3 := by
    rw [← hs3]
    refine I2.laid (t' := s2.toks) (fun b o e => Heap.get?_push_of_some _ e) (Nat.le_of_eq hD) ?_
    rw [← hD]
    exact setO_new (setR_fresh X.w)
  have h3 : s3.heap = s2.heap.push { cls := .type "set", dict := none, data := .set #[] 0 (.fresh 0 0 (!X.w.params.followText "set-order")) } := by rw [← hs3]
  have sz : ∀ b ∈ fp, b < s2.heap.objs.size := fun b hb => by
    obtain ⟨o, e, _⟩ := T.obj _ _ st2 b hb
    exact Heap.lt_size e
  have f3 : ∀ b ∈ fp, FpOk X pins (upd H2 D (SetO X.w D (fun _ => false) 0)) b ∧ b < s3.heap.objs.size := fun b hb => by
    have hlt := sz b hb
    refine ⟨⟨?_, (f2 b hb).2⟩, by rw [h3, Heap.size_push]; exact Nat.lt_succ_of_lt hlt⟩
    rw [upd_ne (by rw [← hD]; exact Nat.ne_of_lt hlt)]
    exact (f2 b hb).1
  have st3 : tn 0 s3.heap := T.keep _ _ _ st2 fun b _ o e => by rw [h3]; exact Heap.get?_push_of_some _ e
  have I4 := block_start I3 ok hN f3
  have pg := hg s3 (upd H2 D (SetO X.w D (fun _ => false) 0)) s3.heap.objs.size (cellsFrom (s3.heap.objs.size + 1) scope.names (cloFrom X.env.cells scope.names [])) fp
  have pt := ht s3 (upd H2 D (SetO X.w D (fun _ => false) 0)) s3.heap.objs.size (cellsFrom (s3.heap.objs.size + 1) scope.names (cloFrom X.env.cells scope.names [])) fp
  have pe := he s3 (upd H2 D (SetO X.w D (fun _ => false) 0)) s3.heap.objs.size (cellsFrom (s3.heap.objs.size + 1) scope.names (cloFrom X.env.cells scope.names [])) fp
  have pi1 := hi1 s3 (upd H2 D (SetO X.w D (fun _ => false) 0)) s3.heap.objs.size (cellsFrom (s3.heap.objs.size + 1) scope.names (cloFrom X.env.cells scope.names [])) fp
  have pg1 := hg1 s3 (upd H2 D (SetO X.w D (fun _ => false) 0)) s3.heap.objs.size (cellsFrom (s3.heap.objs.size + 1) scope.names (cloFrom X.env.cells scope.names [])) fp
  have pt1 := ht1 s3 (upd H2 D (SetO X.w D (fun _ => false) 0)) s3.heap.objs.size (cellsFrom (s3.heap.objs.size + 1) scope.names (cloFrom X.env.cells scope.names [])) fp
  show codeAny _ _ (.compStart (.SetComp elt [⟨tg, iter, ifs, 0⟩, ⟨tg1, iter1, ifs1, 0⟩] scope pos) 0 (.ref it) (.ref D) (compEnvC scope (cellsFrom (s3.heap.objs.size + 1) scope.names (cloFrom X.env.cells scope.names [])) s3.heap.objs.size X.env)) (compPost (model X.prog X.w) X.A X.xe use Qf (.ref D) s3.heap.objs.size) { s3 with heap := pushCells (s3.heap.push { cls := .type "dict", data := .dict #[] }) scope.names }
  have nfp : ∀ b ∈ fp, (upd H2 D (SetO X.w D (fun _ => false) 0)) b = none := fun b hb => (f3 b hb).1.1
  generalize hce : compEnvC scope (cellsFrom (s3.heap.objs.size + 1) scope.names (cloFrom X.env.cells scope.names [])) s3.heap.objs.size X.env = ce at I4 pg pt pe pi1 pg1 pt1 ⊢
  have cL : ce.locals = s3.heap.objs.size := by subst hce; rfl
  generalize hH3 : upd H2 D (SetO X.w D (fun _ => false) 0) = H3 at I3 I4 pg pt pe pi1 pg1 pt1 w0 nfp f3
  generalize hs4 : ({ s3 with heap := pushCells (s3.heap.push { cls := .type "dict", data := .dict #[] }) scope.names } : Shared) = s4 at I4 ⊢
  have st4 : tn 0 s4.heap := T.keep _ _ _ st3 fun b _ o e => by rw [← hs4]; exact pushCells_keeps _ _ _ _ (Heap.get?_push_of_some _ e)
  have stat : ∀ {σ' : L2.St} {H' : Hp} {s' : Shared}, Inv (X.blk s3 H3 scope ce fp) [] σ' H' s' → (∀ b ∈ fp, H' b = none) → ∀ b ∈ fp, FpOk (X.blk s3 H3 scope ce fp) [] H' b := fun {σ' H' s'} I' hn b hb =>
    ⟨hn b hb, (I'.ok.exf b hb).1, I'.ok.exfs b hb, .inl hb, fun x c e => (I'.ok.exf b hb).2 x c e, fun p hp => absurd (show p ∈ ([] : List (Addr × Obj)) ++ [] from hp) (by simp)⟩
  have loop : codeAny (model X.prog X.w) X.A (.compLoop (.SetComp elt [⟨tg, iter, ifs, 0⟩, ⟨tg1, iter1, ifs1, 0⟩] scope pos) 0 (.ref it) (.ref D) ce) (compPost (model X.prog X.w) X.A X.xe use Qf (.ref D) s3.heap.objs.size) s4 := by
    refine compLoop2_outS (hs1 ce) (fun n s' => ∃ i H', Inv (X.blk s3 H3 scope ce fp) [] (wipe σ (own.map (·.2))) H' s' ∧ tn i s'.heap ∧ (∀ b ∈ fp, H' b = none) ∧ W i n H') ?_ m0 ⟨0, H3, I4, st4, nfp, w0⟩
    rintro n s5 ⟨i, H5, I5, st5, n5, w5⟩
    rcases turn i n H5 w5 with ⟨stop, qq⟩ | ⟨go, Nx, hNx, step⟩
    · have td := T.done (X.blk s3 H3 scope ce fp) rfl rfl rfl hc i [] s5 _ H5 (fun _ _ => False) I5 (stat I5 n5) st5 stop
      refine thnF td fun r s6 ⟨hr, I6⟩ => ?_
      subst hr
      -- back in the def's context
      have I7 : Inv X pins σ H5 s6 := I3.call' (ch := fp) I6.os I6.base I6.hok I6.bare fun b hb => ⟨(f3 b hb).1.2.2.2.1, (f3 b hb).1.2.1, (f3 b hb).1.2.2.2.2.1, (f3 b hb).1.2.2.2.2.2⟩
      have nC : H5 s3.heap.objs.size = none := by
        have z : H5 ce.locals = none := I6.free
        rw [cL] at z
        exact z
      obtain ⟨m, hn, _⟩ := I6.loc
      have hn : s6.heap.Ns ce.locals m := hn
      rw [cL] at hn
      exact hRR D s3.heap.objs.size s6 m H5 I7 qq hn (I3.fpOk (Nat.le_refl _) nC)
    · have ti := T.item (X.blk s3 H3 scope ce fp) rfl rfl rfl hc i [] s5 _ H5 (fun _ _ => False) I5 (stat I5 n5) st5 go
      refine thnF ti fun r s6 ⟨u, hr, h6⟩ => ?_
      subst hr
      refine thnF h6 fun _ s7 ⟨x, H7, I7, r7, y7, st7, n7⟩ => ?_
      have I7' := I7.pinned (stat I7 n7) (T.obj _ _ st7)
      refine thnF (pg.run _ s7 _ H7 x u _ I7' r7 (step x H7 y7)) fun _ s8 ⟨σ8, H8, I8, hw8, q8⟩ => ?_
      refine thnF (pt.run _ s8 σ8 H8 _ I8 q8) fun b s9 ⟨H9, I9, q9⟩ => ?_
      -- the turn's end, from any slots that know what the block knew at its start
      have fin : ∀ {σ9 : L2.St} {s' : Shared} {H' : Hp}, Inv (X.blk s3 H3 scope ce fp) ([] ++ pinsAt fp s7.heap) σ9 H' s' → (wipe σ (own.map (·.2))).length = σ9.length → (∀ (j : Nat) v, (wipe σ (own.map (·.2)))[j]? = some (some v) → σ9[j]? = some (some v)) → Nx H' →
          ∃ m, m < n ∧ ∃ i H', Inv (X.blk s3 H3 scope ce fp) [] (wipe σ (own.map (·.2))) H' s' ∧ tn i s'.heap ∧ (∀ b ∈ fp, H' b = none) ∧ W i m H' := fun {σ9 s' H'} I' hl hk nx => by
        obtain ⟨m', hm, w'⟩ := hNx H' nx
        have pin' : ∀ b ∈ fp, ∀ o, s7.heap.get? b = some o → s'.heap.get? b = some o ∧ H' b = none := fun b hb o e =>
          let z := I'.pin (b, o) (List.mem_append_right _ (List.mem_append_right _ (mem_pinsAt hb e)))
          ⟨z.1, z.2.1⟩
        refine ⟨m', hm, i + 1, H', (I'.unpinned (pins := [])).weak hl hk, T.keep _ _ _ st7 fun b hb o e => (pin' b hb o e).1, fun b hb => ?_, w'⟩
        obtain ⟨o, e, _⟩ := T.obj _ _ st7 b hb
        exact (pin' b hb o e).2
      have hl8 : (wipe σ (own.map (·.2))).length = σ8.length := by rw [← hw8, wipe_length]
      have hk8 : ∀ (j : Nat) v, (wipe σ (own.map (·.2)))[j]? = some (some v) → σ8[j]? = some (some v) := fun j v e => by
        rw [← hw8] at e
        exact (wipe_some e).1
      have hk9 : ∀ (j : Nat) v, (wipe σ (own.map (·.2)))[j]? = some (some v) → (wipe σ8 vs1)[j]? = some (some v) := fun j v e => by
        rw [← hw8] at e
        obtain ⟨e1, e2⟩ := wipe_some e
        rw [wipe_out fun z => e2 (hv j z)]
        exact e1
      cases b with
      | false =>
        simp only [Bool.false_eq_true, if_false] at q9 ⊢
        exact fin I9 hl8 hk8 q9
      | true =>
        simp only [if_true] at q9 ⊢
        refine thnF (pi1.run _ s9 σ8 H9 _ I9 q9) fun xv s10 hx => thnF hx fun itv s11 h11 => ?_
        obtain ⟨it1, fp1, tn1, J1, H11, e1, I11, T1, st11, f11, W1, ⟨m1, w1⟩, turn1⟩ := h11
        subst e1
        -- the inner loop
        have stat1 : ∀ {H' : Hp}, (∀ b ∈ fp1, H' b = none) → ∀ b ∈ fp1, FpOk (X.blk s3 H3 scope ce fp) ([] ++ pinsAt fp s7.heap) H' b := fun hn b hb => ⟨hn b hb, (f11 b hb).2⟩
        have loop1 : codeAny (model X.prog X.w) X.A (.compLoop (.SetComp elt [⟨tg, iter, ifs, 0⟩, ⟨tg1, iter1, ifs1, 0⟩] scope pos) 1 (.ref it1) (.ref D) ce)
            (fun r s' => match r with
              | .ok _ => ∃ m, m < n ∧ ∃ i H', Inv (X.blk s3 H3 scope ce fp) [] (wipe σ (own.map (·.2))) H' s' ∧ tn i s'.heap ∧ (∀ b ∈ fp, H' b = none) ∧ W i m H'
              | .error _ => False) s11 := by
          refine compLoop2_inS (fun k s' => ∃ j H', Inv (X.blk s3 H3 scope ce fp) ([] ++ pinsAt fp s7.heap) (wipe σ8 vs1) H' s' ∧ tn1 j s'.heap ∧ (∀ b ∈ fp1, H' b = none) ∧ W1 j k H') ?_ m1 ⟨0, H11, I11.weak (wipe_length _ _) (fun j v e => (wipe_some e).1), st11, fun b hb => (f11 b hb).1, w1⟩
          rintro k s12 ⟨j, H12, I12, st12, n12, w12⟩
          rcases turn1 j k H12 w12 with ⟨stop1, nx1⟩ | ⟨go1, Nx1, hNx1, step1⟩
          · refine thnF (T1.done (X.blk s3 H3 scope ce fp) rfl rfl rfl hc j _ s12 (wipe σ8 vs1) H12 (fun _ _ => False) I12 (stat1 n12) st12 stop1) fun r s13 ⟨hr, I13⟩ => ?_
            subst hr
            exact fin I13 (hl8.trans (wipe_length σ8 vs1).symm) hk9 nx1
          · refine thnF (T1.item (X.blk s3 H3 scope ce fp) rfl rfl rfl hc j _ s12 (wipe σ8 vs1) H12 (fun _ _ => False) I12 (stat1 n12) st12 go1) fun r s13 ⟨u1, hr, h13⟩ => ?_
            subst hr
            refine thnF h13 fun _ s14 ⟨x1, H14, I14, r14, y14, st14, n14⟩ => ?_
            have I14' := I14.pinned (stat1 n14) (T1.obj _ _ st14)
            refine thnF (pg1.run _ s14 (wipe σ8 vs1) H14 x1 u1 _ I14' r14 (step1 x1 H14 y14)) fun _ s15 ⟨σ15, H15, I15, hw15, q15⟩ => ?_
            refine thnF (pt1.run _ s15 σ15 H15 _ I15 q15) fun b1 s16 ⟨H16, I16, q16⟩ => ?_
            have fin1 : ∀ {s' : Shared} {H' : Hp}, Inv (X.blk s3 H3 scope ce fp) (([] ++ pinsAt fp s7.heap) ++ pinsAt fp1 s14.heap) σ15 H' s' → Nx1 H' → ∃ m, m < k ∧ ∃ j H', Inv (X.blk s3 H3 scope ce fp) ([] ++ pinsAt fp s7.heap) (wipe σ8 vs1) H' s' ∧ tn1 j s'.heap ∧ (∀ b ∈ fp1, H' b = none) ∧ W1 j m H' := fun {s' H'} I' nx => by
              obtain ⟨m', hm, w'⟩ := hNx1 H' nx
              have pin' : ∀ b ∈ fp1, ∀ o, s14.heap.get? b = some o → s'.heap.get? b = some o ∧ H' b = none := fun b hb o e =>
                let z := I'.pin (b, o) (List.mem_append_right _ (List.mem_append_right _ (mem_pinsAt hb e)))
                ⟨z.1, z.2.1⟩
              refine ⟨m', hm, j + 1, H', I'.unpinned.weak (by rw [← hw15, wipe_length]) (fun j v e => by rw [← hw15] at e; exact (wipe_some e).1), T1.keep _ _ _ st14 fun b hb o e => (pin' b hb o e).1, fun b hb => ?_, w'⟩
              obtain ⟨o, e, _⟩ := T1.obj _ _ st14 b hb
              exact (pin' b hb o e).2
            cases b1 with
            | false =>
              simp only [Bool.false_eq_true, if_false] at q16 ⊢
              exact fin1 I16 q16
            | true =>
              simp only [if_true] at q16 ⊢
              refine thnF (pe.run _ s16 σ15 H16 _ I16 q16) fun z s17 ⟨yv, H17, I17, r17, cb, S0, n0, ey, hD17, hz17, nx⟩ => ?_
              subst ey
              obtain ⟨tk, rfl⟩ := r17
              exact addI_ok (X := X.blk s3 H3 scope ce fp) I17 hD17 hz17 fun s18 I18 => fin1 I18 nx
        exact compStart1_okS loop1 (T1.self X.A 0 _ _ _ st11 loop1)
  exact PpSet.codeAny_compStart_set loop (T.self X.A 0 _ _ _ st4 loop)
/-- as a value -/
theorem pe_sc2 {elt tg iter tg1 iter1 : Expr} {ifs ifs1 : List Expr} {scope : Scope} {own : List (PySem.Str × Nat)} {vs1 : List Nat} {pos : Pos} {wi wi1 : TI} {g g1 : TG} {tt tt1 : TT} {te : TE} (hc : X.calm = true) (hN : X.N.Nodup) (hi : PI X tg iter wi) (ok : BlkOk X.N X.env.scope scope own) (hv : ∀ i ∈ vs1, i ∈ own.map (·.2))
    (hg : ∀ (s : Shared) (H : Hp) (C : Addr) (cl : List (PySem.Str × Addr)) (fp : List Addr), PG (X.blk s H scope (compEnvC scope cl C X.env) fp) tg g) (ht : ∀ (s : Shared) (H : Hp) (C : Addr) (cl : List (PySem.Str × Addr)) (fp : List Addr), PTs (X.blk s H scope (compEnvC scope cl C X.env) fp) ifs tt)
    (hi1 : ∀ (s : Shared) (H : Hp) (C : Addr) (cl : List (PySem.Str × Addr)) (fp : List Addr), PI (X.blk s H scope (compEnvC scope cl C X.env) fp) tg1 iter1 wi1)
    (hg1 : ∀ (s : Shared) (H : Hp) (C : Addr) (cl : List (PySem.Str × Addr)) (fp : List Addr), PG (X.blk s H scope (compEnvC scope cl C X.env) fp) tg1 g1) (ht1 : ∀ (s : Shared) (H : Hp) (C : Addr) (cl : List (PySem.Str × Addr)) (fp : List Addr), PTs (X.blk s H scope (compEnvC scope cl C X.env) fp) ifs1 tt1)
    (he : ∀ (s : Shared) (H : Hp) (C : Addr) (cl : List (PySem.Str × Addr)) (fp : List Addr), PE (X.blk s H scope (compEnvC scope cl C X.env) fp) elt te) (hs : ∀ x, foldedSetIterable iter X.env x = pure x := by intro _; rfl) (hs1 : ∀ env x, foldedSetIterable iter1 env x = pure x := by intro _ _; rfl) :
    PE X (.SetComp elt [⟨tg, iter, ifs, 0⟩, ⟨tg1, iter1, ifs1, 0⟩] scope pos) (tSc2 X.w wi g tt wi1 g1 tt1 te (own.map (·.2)) vs1) := by
  refine ⟨fun pins s σ H Q I h => ?_⟩
  rw [PpSet.eval_SetComp]
  refine sc2_core hc hN I hi ok hv hg ht he hs hi1 hg1 ht1 hs1 h fun D C s' m H' I' q hn f => ⟨m, hn, fun h'' sb => ?_⟩
  obtain ⟨f0, f1, f2, f3, f4, f5⟩ := f
  exact ⟨.ref D, H', I'.turned (t' := s'.toks) (fun b o hb e => (sb.2 b hb).trans e) f0 f1 f3 f4 f5, rfl, q⟩
end
end Z
set_option Elab.async false
set_option linter.all false
set_option maxRecDepth 100000
set_option maxHeartbeats 2000000
/-! sorted({.. for .. for ..}) -/
namespace Z
open PySem PySem.Spec PyProof.Rows L2 Evl
theorem nodup_le {α : Type} [DecidableEq α] : ∀ {l m : List α}, l.Nodup → (∀ x ∈ l, x ∈ m) → l.length ≤ m.length
  | [], m, _, _ => by simp
  | a :: l, m, h, hm => by
    rw [List.nodup_cons] at h
    have ha : a ∈ m := hm a (by simp)
    have := nodup_le (l := l) (m := m.erase a) h.2 fun x hx => (List.mem_erase_of_ne (fun e => h.1 (by subst e; exact hx))).mpr (hm x (by simp [hx]))
    rw [List.length_erase_of_mem ha] at this
    have : 0 < m.length := List.length_pos_of_mem ha
    simp only [List.length_cons]
    omega
theorem small_ints {L l : List Int} (hL : L.length ≤ 60) (h : l.Nodup) (hb : ∀ x ∈ l, x ∈ L) : l.length ≤ 60 := Nat.le_trans (nodup_le h hb) hL
theorem putIs_nodup : ∀ (m : List Int) {l : List Int}, l.Nodup → (m.foldl putI l).Nodup
  | [], _, h => h
  | a :: m, _, h => putIs_nodup m (putI_nodup h a)
theorem putIs_mem {x : Int} : ∀ (m : List Int) {l : List Int}, x ∈ m.foldl putI l ↔ x ∈ l ∨ x ∈ m
  | [], l => by simp
  | a :: m, l => by
    rw [List.foldl_cons, putIs_mem m, putI_mem, List.mem_cons]
    exact or_assoc
def setH (w : World) (D : Addr) (l : List Int) : HO := SetO w D (fun j => decide (j ∈ l)) l.length
theorem setH_add (w : World) (D : Addr) (l : List Int) (c : Int) : SetO w D (fun j => decide (j ∈ l) || decide (j = c)) (if decide (c ∈ l) = true then l.length else l.length + 1) = setH w D (putI l c) := by
  unfold setH
  congr 1
  · funext j
    rw [← Bool.decide_or]
    exact decide_eq_decide.mpr putI_mem.symm
  · unfold putI
    by_cases h : c ∈ l <;> simp [h]
section
variable {X : Cx} {P : Program} {w : World} {K : PySem.W.Frag} {mg : Str → Option Value} {base : Heap} {N : List Str} {sc scope : Scope} {k : Nat}
variable {Γ : List Sl} {e elt iter iter1 tg tg1 : Expr} {es ifs ifs1 : List Expr} {d x y z : PyData} {ds : List PyData} {pos p px py pz cp : Pos} {own : List (Str × Nat)} {is js : List Nat} {g g1 : TG}
theorem sc2_ev {α β : Type} {wi wi1 : TI} {tt tt1 : TT} {te : TE} {vs vs1 : List Nat} (xs : List α) (enc : α → PyData) (es1 : α → List β) (enc1 : β → PyData) (h : α → β → Int) (Γ1 : α → List Sl) (Γ2 : α → β → List Sl) (hi : EvI K wi Γ (xs.map enc)) (L : List Int) (hL : L.length ≤ 60) (hb : ∀ d ∈ xs, ∀ e ∈ es1 d, h d e ∈ L)
    (hv : ∀ j ∈ is, j ∈ vs) (hv1 : ∀ j ∈ js, j ∈ vs1) (hob : ∀ d ∈ xs, ∀ (i : Nat) (o : Ob), (Γ1 d)[i]? ≠ some (.ob o))
    (hg : ∀ d ∈ xs, Tgd K g (enc d) (wipeG Γ vs) (Γ1 d) is) (ht : ∀ d ∈ xs, EvB K tt (Γ1 d) true) (hi1 : ∀ d ∈ xs, EvI K wi1 (Γ1 d) ((es1 d).map enc1))
    (hg1 : ∀ d ∈ xs, ∀ e ∈ es1 d, Tgd K g1 (enc1 e) (wipeG (Γ1 d) vs1) (Γ2 d e) js) (ht1 : ∀ d ∈ xs, ∀ e ∈ es1 d, EvB K tt1 (Γ2 d e) true)
    (he : ∀ d ∈ xs, ∀ e ∈ es1 d, EvD K te (Γ2 d e) (.int (h d e))) {G0 H0 : Hp} {σ : L2.St} {G H : Hp} (hA : At K G0 H0 Γ σ G H) (Q : VK)
    (hQ : ∀ D G' H', Gr G H G' H' → H' D = some (setH w D ((xs.flatMap fun d => (es1 d).map (h d)).foldl putI [])) → Q (.ref D) H') : tSc2 w wi g tt wi1 g1 tt1 te vs vs1 σ H Q :=
  hi G0 H0 σ G H hA _ fun J G1 H1 gr1 Y D hD => by
    have hD1 : G1 D = none := fresh_back gr1.gh hD
    let Pv : List Int → Hp → Prop := fun out H' => ∃ G', Gr G1 H1 G' H' ∧ G' D = none ∧ H' D = some (setH w D (out.foldl putI []))
    let out : Nat → List Int := fun i => (xs.take i).flatMap fun d => (es1 d).map (h d)
    have out_in : ∀ i, ∀ y ∈ out i, y ∈ L := fun i y hy => by
      simp only [out, List.mem_flatMap, List.mem_map] at hy
      obtain ⟨d, hd, e, he', rfl⟩ := hy
      exact hb d (List.mem_of_mem_take hd) e he'
    refine ⟨fun i m H' => m = xs.length - i ∧ i ≤ xs.length ∧ Pv (out i) H', ⟨xs.length, by simp, Nat.zero_le _, G1, gr_mut (Gr.refl gr1.gh) hD hD1, hD1, by rw [upd_same]; rfl⟩, ?_⟩
    rintro i m H' ⟨rfl, hil, G', gr, gD, hD'⟩
    by_cases hlt : i < xs.length
    · refine .inr ⟨Y.go i H' (by simpa using hlt) (gr.gg.trans gr.gh), Pv (out (i + 1)), fun H2 p => ⟨xs.length - (i + 1), by omega, rfl, hlt, p⟩, fun x H2 hy => ?_⟩
      have hd : xs[i]? = some xs[i] := List.getElem?_eq_getElem hlt
      have hm : xs[i] ∈ xs := List.getElem_mem hlt
      obtain ⟨G2, g2, hx⟩ := Y.yld i (enc xs[i]) x G' H' H2 (by rw [List.getElem?_map, hd]; rfl) hy gr.gg gr.gh
      have hA2 : At K G0 H0 (wipeG Γ vs) (L2.wipe σ vs) G2 H2 := (((hA.grow gr1).grow gr).grow g2).wipe vs
      refine hg _ hm G0 H0 _ G2 H2 x hA2 hx _ fun σ2 hA3 l3 f3 => ⟨wipe_eq l3 f3 hv, ht _ hm G0 H0 σ2 G2 H2 hA3 _ fun G3 H3 g3 => ?_⟩
      rw [if_pos rfl]
      have nx : out (i + 1) = out i ++ (es1 xs[i]).map (h xs[i]) := by
        simp only [out]
        rw [List.take_add_one, hd, Option.toList_some, List.flatMap_append, List.flatMap_cons, List.flatMap_nil, List.append_nil]
      refine hi1 _ hm G0 H0 σ2 G3 H3 (hA3.grow g3) _ fun J1 G4 H4 g4 Y1 => ?_
      have g24 : Gr G' H' G4 H4 := (g2.trans g3).trans g4
      have nob := hob _ hm
      let Iv : Nat → Hp → Prop := fun j H' => ∃ G5, Gr G1 H1 G5 H' ∧ Ex G4 G5 ∧ G5 D = none ∧ H' D = some (setH w D ((out i ++ ((es1 xs[i]).take j).map (h xs[i])).foldl putI [])) ∧ At K G0 H0 (Γ1 xs[i]) σ2 G5 H'
      refine ⟨fun j k H' => k = (es1 xs[i]).length - j ∧ j ≤ (es1 xs[i]).length ∧ Iv j H', ⟨_, rfl, Nat.zero_le _, G4, gr.trans g24, Ex.refl _, g24.fr D _ hD' gD, by rw [g24.hh _ _ hD']; simp, (hA3.grow g3).grow g4⟩, ?_⟩
      rintro j m1 H5 ⟨rfl, hjl, G5, gr5, ex5, gD5, hD5, hA5⟩
      by_cases hjt : j < (es1 xs[i]).length
      · refine .inr ⟨Y1.go j H5 (by simpa using hjt) (ex5.trans gr5.gh), Iv (j + 1), fun H6 p => ⟨_, by omega, rfl, hjt, p⟩, fun x1 H6 hy1 => ?_⟩
        have hd1 : (es1 xs[i])[j]? = some (es1 xs[i])[j] := List.getElem?_eq_getElem hjt
        have hm1 : (es1 xs[i])[j] ∈ es1 xs[i] := List.getElem_mem hjt
        obtain ⟨G6, g6, hx1⟩ := Y1.yld j (enc1 (es1 xs[i])[j]) x1 G5 H5 H6 (by rw [List.getElem?_map, hd1]; rfl) hy1 ex5 gr5.gh
        refine hg1 _ hm _ hm1 G0 H0 _ G6 H6 x1 ((hA5.grow g6).wipe vs1) hx1 _ fun σ3 hA6 l6 f6 => ⟨wipe_eq l6 f6 hv1, ht1 _ hm _ hm1 G0 H0 σ3 G6 H6 hA6 _ fun G7 H7 g7 => ?_⟩
        rw [if_pos rfl]
        refine he _ hm _ hm1 G0 H0 σ3 G7 H7 (hA6.grow g7) _ fun y G8 H8 g8 d8 => ?_
        have g58 : Gr G5 H5 G8 H8 := (g6.trans g7).trans g8
        have gD8 : G8 D = none := g58.fr D _ hD5 gD5
        cases d8
        have hlen : ((out i ++ ((es1 xs[i]).take j).map (h xs[i])).foldl putI []).length ≤ 60 := by
          refine small_ints hL (putIs_nodup _ (by simp)) fun y hy => ?_
          rcases (putIs_mem _).mp hy with hy | hy
          · simp at hy
          · rcases List.mem_append.mp hy with hy | hy
            · exact out_in i y hy
            · obtain ⟨e, he', rfl⟩ := List.mem_map.mp hy
              exact hb _ hm e (List.mem_of_mem_take he')
        refine ⟨_, _, _, rfl, g58.hh _ _ hD5, Nat.lt_of_le_of_lt (Nat.succ_le_succ hlen) (by decide), G8, gr_mut (gr5.trans g58) hD gD8, ex5.trans g58.gg, gD8, ?_, (hA5.grow g58).mut nob (fresh_back (hA.gr.hh.trans gr1.hh) hD) gD8⟩
        rw [upd_same, setH_add, List.take_add_one, hd1, Option.toList_some, List.map_append, ← List.append_assoc]
        conv => rhs; rw [List.foldl_append]
        rfl
      · have e : j = (es1 xs[i]).length := by omega
        subst e
        refine .inl ⟨by have := Y1.stop H5 (ex5.trans gr5.gh); rwa [List.length_map] at this, G5, gr5, gD5, ?_⟩
        rw [nx]
        rw [List.take_length] at hD5
        exact hD5
    · have e : i = xs.length := by omega
      subst e
      refine .inl ⟨by have := Y.stop H' (gr.gg.trans gr.gh); rwa [List.length_map] at this, ?_⟩
      have e2 : out xs.length = xs.flatMap fun d => (es1 d).map (h d) := by simp [out]
      rw [e2] at hD'
      exact hQ D G' H' (gr1.trans gr) hD'
/-- sorted({elt for x in iter for y in t}), t a tuple's name -/
theorem e_sortedSet2 {α β : Type} (F : XF X P w K mg base N sc k) (bn : BN mg) (i j m : Nat) (xs : List α) (enc : α → PyData) (ys : α → List β) (enc1 : β → PyData) {x y t : Str} (hs : Src X Γ (.Name x px) iter (xs.map enc)) (h : α → β → Int) (L : List Int) (hL : L.length ≤ 60) (hb : ∀ d ∈ xs, ∀ e ∈ ys d, h d e ∈ L) (ms : List Int)
    (hms : ∀ l : List Int, l.Pairwise (· < ·) → (∀ k : Int, k ∈ l ↔ k ∈ xs.flatMap fun d => (ys d).map (h d)) → l = ms)
    (hm : ∀ d ∈ xs, ((wipeG Γ [i, j]).set i (.dat (enc d)))[m]? = some (.dat (.tuple ((ys d).map enc1))))
    (hob : ∀ d ∈ xs, (((wipeG Γ [i, j]).set i (.dat (enc d))).all fun s => match s with | .ob _ => false | _ => true) = true)
    (he : ∀ Y, XF Y P w K mg base N (relS scope sc) k → ∀ d ∈ xs, ∀ e ∈ ys d, E Y ((wipeG ((wipeG Γ [i, j]).set i (.dat (enc d))) [j]).set j (.dat (enc1 e))) elt (.int (h d e)))
    (ok : blkC N sc scope [(x, i), (y, j)] = true := by decide +kernel) (hN : N[i]? = some x := by rfl) (hl : lclB (relS scope sc) x = true := by rfl) (hN2 : N[j]? = some y := by rfl) (hl2 : lclB (relS scope sc) y = true := by rfl) (hN3 : N[m]? = some t := by rfl) (hv3 : visB (relS scope sc) t = true := by rfl)
    (hd : (t == ("__debug__" : Str)) = false := by decide) (hcd : (t == ("__classdict__" : Str)) = false := by decide) (hgl : glB sc "sorted" = true := by rfl)
    (hfs : ∀ x, foldedSetIterable iter X.env x = pure x := by intro _; rfl) (hfs1 : ∀ env x, foldedSetIterable (.Name t pz) env x = pure x := by intro _ _; rfl) :
    E X Γ (.Call (.Name "sorted" p) [.SetComp elt [⟨.Name x px, iter, [], 0⟩, ⟨.Name y py, .Name t pz, [], 0⟩] scope pos] [] cp) (.list (ms.map .int)) := by
  obtain ⟨wi, pi, ev⟩ := hs
  have hK := F.hK
  have hw := F.hw
  refine e_of (pe_callB (cr_sortedSet F.calm) (F.gl hgl) (F.none bn.sorted) (by decide +kernel) (pa_cons (pe_sc2 F.calm (by rw [F.hN]; exact F.nd) pi (blk_ok F ok) (vs1 := [j]) (by simp) (fun s H C cl fp => pg_nmB (F.blk s H C cl fp) i hN hl) ptB (fun s H C cl fp => pi_vT (F.blk s H C cl fp) m hN3 hv3 hd hcd) (fun s H C cl fp => pg_nmB (F.blk s H C cl fp) j hN2 hl2) ptB peB hfs hfs1) pa_nil)) fun G0 H0 σ G H hA Q hQ => ?_
  refine sc2_ev (w := X.w) (is := [i]) (js := [j]) (vs := [i, j]) (vs1 := [j]) xs enc ys enc1 h (fun d => (wipeG Γ [i, j]).set i (.dat (enc d))) (fun d e => (wipeG ((wipeG Γ [i, j]).set i (.dat (enc d))) [j]).set j (.dat (enc1 e))) ev L hL hb (by simp) (by simp) (fun d hd => nob_of (hob d hd)) (by rw [hK]; exact fun d _ => tgd_name i) (fun d hd => evb_B fun s H C cl fp => .nil) (by rw [hK]; exact fun d hd => evi_tup (evd_var (hm d hd))) (by rw [hK]; exact fun d _ e _ => tgd_name j) (fun d hd e he' => evb_B fun s H C cl fp => .nil) (fun d hd e he' => evd_B fun s H C cl fp => he _ (F.blk s H C cl fp) d hd e he') hA (fun v H1 => rSortedSet X.w [v] H1 Q) fun D G1 H1 g1 hD => ?_
  have hlen : ((xs.flatMap fun d => (ys d).map (h d)).foldl putI []).length ≤ 60 := by
    refine small_ints hL (putIs_nodup _ (by simp)) fun y hy => ?_
    rcases (putIs_mem _).mp hy with hy | hy
    · simp at hy
    · simp only [List.mem_flatMap, List.mem_map] at hy
      obtain ⟨d, hd, e, he', rfl⟩ := hy
      exact hb d hd e he'
  refine ⟨D, _, _, rfl, hD, by omega, fun ns p h1 h2 h3 h4 => ?_⟩
  rw [hms ns h1 fun k => by rw [h2]; simp only [decide_eq_true_eq]; rw [putIs_mem]; simp]
  exact hQ _ _ _ (g1.trans (Gr.new g1.gh h4)) (.lst upd_same (dt_intsOf ms))
end
end Z
set_option Elab.async false
set_option linter.all false
set_option maxRecDepth 100000
set_option maxHeartbeats 4000000
/-! x.pop(0); the table of names. -/
namespace Z
open PySem PySem.Spec PyProof.Rows L2 Evl
section
variable {X : Cx} {P : Program} {w : World} {K : PySem.W.Frag} {mg : Str → Option Value} {base : Heap} {N : List Str} {sc scope : Scope} {k : Nat}
variable {Γ : List Sl} {e : Expr} {d : PyData} {ds : List PyData} {pos p px py : Pos} {κ : Kt} {rest : List Stmt}
theorem set_pop0 (F : XF X P w K mg base N sc k) (xd : XD X) (i q : Nat) {x y : Str} {apos cpos pc : Pos} {j} (hi : Γ[q]? = some (.ob (oL X.K (d :: ds)))) (h : Ss X ((Γ.set q (.ob (oL X.K ds))).set i (.dat d)) rest κ) (hN : N[i]? = some y := by rfl) (hl : locB sc y = true := by rfl) (hN2 : N[q]? = some x := by rfl) (hv : visB sc x = true := by rfl)
    (hd : (x == ("__debug__" : Str)) = false := by decide) (hcd : (x == ("__classdict__" : Str)) = false := by decide)
    (hs : starEach [.Constant (.int 0) j pc] X.env = (false, eval (.Constant (.int 0) j pc) X.env) :: starEach [] X.env := by rfl)
    (hline : (apos.endLine == cpos.line) = true := by rfl) (hsw : swapsWith (.Call (.Attribute (.Name x px) "pop" apos) [.Constant (.int 0) j pc] [] cpos) (some (.Name y py)) pos.line X.env = pure false := by rfl) :
    Ss X Γ (.Assign [.Name y py] (.Call (.Attribute (.Name x px) "pop" apos) [.Constant (.int 0) j pc] [] cpos) pos :: rest) κ := ss_cons fun G0 H0 D M σ G H hA pins s I => by
  refine (ps_set (i := i) (by rw [F.hN]; exact F.nd) (by rw [F.hN]; exact hN) (by rw [F.hsc]; exact loc_of hl) (pe_bm PySem.F.plainAttrs_list PySem.F.slot_list_pop PySem.F.type_list_pop mt_popAt (pe_var (i := q) (by rw [F.hN]; exact hN2) (by rw [F.hsc]; exact vis_of hv) hd hcd) (pa_cons pe_int pa_nil hs) (by rfl) (by rw [hs]; rfl) hline hs) hsw (.inl (xd.fn y))).run pins s σ H D I ?_
  obtain ⟨l, vs, e1, h1, hg, h0, hd1⟩ := evl_at hA hi
  cases hd1 with
  | cons q1 q2 =>
    refine ⟨_, e1, .inl ⟨rfl, _, sq_of h1⟩, ?_⟩
    exact ⟨l, _, 0, 0, _, rfl, rfl, h1, by decide, by decide, by simp [seqIndex?], rfl, M.nx _ h _ G _ ((hA.chg (o' := oL X.K ds) hi e1 ⟨_, rfl, q2⟩).set q1)⟩
end
theorem inV_ints (i : Int) (l : List Int) : inV (.int i) (l.map V.int) = decide (i ∈ l) := by
  induction l with
  | nil => rfl
  | cons a l ih =>
    have e : inV (.int i) ((a :: l).map V.int) = (eqV (.int a) (.int i) || inV (.int i) (l.map V.int)) := rfl
    rw [e, ih]
    have e2 : eqV (.int a) (.int i) = decide (a = i) := rfl
    rw [e2]
    by_cases h : a = i
    · subst h; simp
    · have h' : ¬ i = a := fun e => h e.symm
      simp [h, h']
theorem strict_one : ∀ {l m : List Int}, l.Pairwise (· < ·) → m.Pairwise (· < ·) → (∀ k, k ∈ l ↔ k ∈ m) → l = m
  | [], [], _, _, _ => rfl
  | [], b :: m, _, _, h => absurd ((h b).mpr (by simp)) (by simp)
  | a :: l, [], _, _, h => absurd ((h a).mp (by simp)) (by simp)
  | a :: l, b :: m, h1, h2, h => by
    rw [List.pairwise_cons] at h1 h2
    have e : a = b := by
      have ha := (h a).mp (by simp)
      have hb := (h b).mpr (by simp)
      rcases List.mem_cons.mp ha with e | ha
      · exact e
      · rcases List.mem_cons.mp hb with e | hb
        · exact e.symm
        · have := h1.1 b hb
          have := h2.1 a ha
          omega
    subst e
    rw [strict_one h1.2 h2.2 fun k => ?_]
    constructor
    · intro hk
      rcases List.mem_cons.mp ((h k).mp (by simp [hk])) with e | e
      · have := h1.1 k hk
        omega
      · exact e
    · intro hk
      rcases List.mem_cons.mp ((h k).mpr (by simp [hk])) with e | e
      · have := h2.1 k hk
        omega
      · exact e
end Z
set_option Elab.async false
set_option linter.all false
set_option maxRecDepth 100000
set_option maxHeartbeats 4000000
namespace Z
open PySem PySem.Spec PyProof.Rows L2 Evl
/-! ### name_table -/
def dSt (st : Sts) : PyData := .tuple (st.map dNs)
def nmE (ns : List (Sts × Bts)) : List En := ns.map fun e => (.inr e.1, some e.2)
/-- what is kept of the names -/
structure nOk (ps : List Bts) (ns : List (Sts × Bts)) : Prop where
  reach : ∀ x ∈ ns, ∃ nm : Bts, x.1 = nm.foldl (mvS ps) (stS ps)
  nd : (ns.map (·.1)).Nodup
  len : ∀ x ∈ ns, x.2.length < ns.length
theorem nOk.le {ps : List Bts} {ns : List (Sts × Bts)} (h : nOk ps ns) (ok : okP ps) : ns.length ≤ 512 := by
  have := ok.2.2 (ns.map (·.1)) h.nd fun s hs => by
    obtain ⟨x, hx, rfl⟩ := List.mem_map.mp hs
    exact h.reach x hx
  rwa [List.length_map] at this
theorem bfs1_le (ps : List Bts) (e : Sts × Bts) (ns : List (Sts × Bts)) (b : Nat) : ns.length ≤ (bfs1 ps e ns b).length := by
  unfold bfs1
  split
  · omega
  · simp
theorem nOk.step {ps : List Bts} {ns : List (Sts × Bts)} {e : Sts × Bts} (h : nOk ps ns) (he : ∃ nm : Bts, e.1 = nm.foldl (mvS ps) (stS ps)) (he2 : e.2.length < ns.length) (b : Nat) : nOk ps (bfs1 ps e ns b) := by
  unfold bfs1
  split
  · exact h
  · rename_i hn
    refine ⟨fun x hx => ?_, ?_, fun x hx => ?_⟩
    · rcases List.mem_append.mp hx with hx | hx
      · exact h.reach x hx
      · simp at hx
        obtain ⟨nm, e1⟩ := he
        refine ⟨nm ++ [b], ?_⟩
        rw [hx, List.foldl_append, ← e1]
        rfl
    · rw [List.map_append, List.nodup_append]
      exact ⟨h.nd, by simp, fun a ha b' hb e' => hn (by simp at hb; rw [← hb, ← e']; exact ha)⟩
    · rw [List.length_append, List.length_singleton]
      rcases List.mem_append.mp hx with hx | hx
      · have := h.len x hx
        omega
      · simp at hx
        rw [hx, List.length_append, List.length_singleton]
        omega
theorem nOk.steps {ps : List Bts} {e : Sts × Bts} (he : ∃ nm : Bts, e.1 = nm.foldl (mvS ps) (stS ps)) : ∀ (ls : List Nat) {ns : List (Sts × Bts)}, nOk ps ns → e.2.length < ns.length → nOk ps (bfsE ps ls ns e)
  | [], _, h, _ => h
  | b :: ls, ns, h, h2 => nOk.steps he ls (h.step he h2 b) (Nat.lt_of_lt_of_le h2 (bfs1_le ps e ns b))
theorem nmE_nd {ns : List (Sts × Bts)} (h : (ns.map (·.1)).Nodup) : ((nmE ns).map fun (e : En) => tkN e.1).Nodup := by
  have : ((nmE ns).map fun (e : En) => tkN e.1) = (ns.map (·.1)).map fun b => tkN (.inr b) := by simp [nmE, Function.comp_def]
  rw [this]
  exact nodup_map (fun _ _ h => tkN_sts h) h
theorem tabs_len {ps : List Bts} : ∀ (ns : List (Sts × Bts)) (tb : List (List Bool × Bts)), (ns.foldl (tabS ps) tb).length ≤ tb.length + ns.length
  | [], tb => by simp
  | e :: ns, tb => by
    have h1 := tabs_len (ps := ps) ns (tabS ps tb e)
    have h2 : (tabS ps tb e).length ≤ tb.length + 1 := by
      unfold tabS
      split <;> simp
    simp only [List.foldl_cons, List.length_cons]
    omega
theorem bfsE_pre {ps : List Bts} {e : Sts × Bts} : ∀ (ls : List Nat) (ns : List (Sts × Bts)), ∃ more, bfsE ps ls ns e = ns ++ more
  | [], ns => ⟨[], by simp [bfsE]⟩
  | b :: ls, ns => by
    obtain ⟨m, hm⟩ := bfsE_pre (e := e) ls (bfs1 ps e ns b)
    have h1 : bfsE ps (b :: ls) ns e = bfsE ps ls (bfs1 ps e ns b) e := rfl
    rw [h1, hm]
    unfold bfs1
    split
    · exact ⟨m, rfl⟩
    · exact ⟨[(mvS ps e.1 b, e.2 ++ [b])] ++ m, by simp⟩
def gq (q : Bts × Bts) : Prop := (∀ i ∈ q.2, i ≤ q.1.length) ∧ q.2.length ≤ q.1.length + 1
theorem mvS_ok {ps : List Bts} {st : Sts} {b : Nat} : ∀ q ∈ ps.zip (mvS ps st b), gq q := by
  have gen : ∀ (ps : List Bts) (st : Sts), ∀ q ∈ ps.zip ((ps.zip st).map fun q => mvd q.1 q.2 b), gq q := fun ps => by
    induction ps with
    | nil => intro st q hq; simp at hq
    | cons p ps ih =>
      intro st q hq
      cases st with
      | nil => simp at hq
      | cons s st =>
        simp only [List.zip_cons_cons, List.map_cons, List.mem_cons] at hq
        rcases hq with rfl | hq
        · exact ⟨fun i hi => opn_le i hi, opn_len⟩
        · exact ih st q hq
  exact gen ps st
theorem stS_ok {ps : List Bts} : ∀ q ∈ ps.zip (stS ps), gq q := by
  induction ps with
  | nil => intro q hq; simp at hq
  | cons p ps ih =>
    intro q hq
    simp only [stS, List.map_cons, List.zip_cons_cons, List.mem_cons] at hq
    rcases hq with rfl | hq
    · exact ⟨fun i hi => opn_le i hi, opn_len⟩
    · exact ih q hq
theorem run_ok {ps : List Bts} : ∀ (nm : Bts) (st : Sts), st.length = ps.length → (∀ q ∈ ps.zip st, gq q) → (nm.foldl (mvS ps) st).length = ps.length ∧ ∀ q ∈ ps.zip (nm.foldl (mvS ps) st), gq q
  | [], st, h1, h2 => ⟨h1, h2⟩
  | b :: nm, st, h1, h2 => run_ok nm (mvS ps st b) (mvS_len ps st b h1) mvS_ok
theorem nOk.st {ps : List Bts} {ns : List (Sts × Bts)} (h : nOk ps ns) : ∀ x ∈ ns, x.1.length = ps.length ∧ ∀ q ∈ ps.zip x.1, gq q := fun x hx => by
  obtain ⟨nm, e⟩ := h.reach x hx
  rw [e]
  exact run_ok nm (stS ps) (by simp [stS]) stS_ok
/-- a place list is short: it has no item twice -/
theorem opn_nodup (p pl : Bts) : (opn p pl).Nodup := by
  unfold opn
  exact List.Pairwise.filter _ List.nodup_range
theorem lk_nm {n : Nat} {e : Sts × Bts} : ∀ {ns : List (Sts × Bts)}, (ns.map (·.1)).Nodup → ns[n]? = some e → lk (nmE ns) (tkN (.inr e.1)) = some (some e.2) := by
  intro tb
  induction tb generalizing n with
  | nil => intro _ h; simp at h
  | cons x tb ih =>
    intro hn h
    rw [List.map_cons, List.nodup_cons] at hn
    by_cases q : x.1 = e.1
    · have e0 : x = e := by
        cases n with
        | zero => simpa using h
        | succ n =>
          exfalso
          have hm : e ∈ tb := List.mem_of_getElem? (i := n) (by simpa using h)
          exact hn.1 (List.mem_map.mpr ⟨e, hm, q.symm⟩)
      subst e0
      simp [lk, nmE]
    · cases n with
      | zero =>
        simp at h
        exact absurd (by rw [h]) q
      | succ n =>
        have := ih hn.2 (n := n) (by simpa using h)
        have hne : ¬ tkN (.inr x.1) = tkN (.inr e.1) := fun z => q (tkN_sts z)
        simp only [lk, nmE, List.map_cons, List.find?_cons, hne, decide_false] at this ⊢
        exact this
theorem lk_nm_none {st : Sts} : ∀ {ns : List (Sts × Bts)}, (lk (nmE ns) (tkN (.inr st))).isSome = decide (st ∈ ns.map (·.1))
  | [] => rfl
  | x :: ns => by
    by_cases q : x.1 = st
    · subst q
      simp [lk, nmE]
    · have hne : ¬ tkN (.inr x.1) = tkN (.inr st) := fun z => q (tkN_sts z)
      have ih := lk_nm_none (st := st) (ns := ns)
      have q' : ¬ st = x.1 := fun e => q e.symm
      have e : (lk (nmE (x :: ns)) (tkN (.inr st))) = lk (nmE ns) (tkN (.inr st)) := by
        simp only [lk, nmE, List.map_cons, List.find?_cons, hne, decide_false]
      rw [e, ih, List.map_cons]
      simp only [List.mem_cons, q', false_or]
theorem lk_tb_none {key : List Bool} : ∀ {tb : List (List Bool × Bts)}, (lk (tbE tb) (tkN (.inl key))).isSome = decide (key ∈ tb.map (·.1))
  | [] => rfl
  | x :: tb => by
    by_cases q : x.1 = key
    · subst q
      simp [lk, tbE]
    · have hne : ¬ tkN (.inl x.1) = tkN (.inl key) := fun z => q (tkN_bools z)
      have ih := lk_tb_none (key := key) (tb := tb)
      have q' : ¬ key = x.1 := fun e => q e.symm
      have e : (lk (tbE (x :: tb)) (tkN (.inl key))) = lk (tbE tb) (tkN (.inl key)) := by
        simp only [lk, tbE, List.map_cons, List.find?_cons, hne, decide_false]
      rw [e, ih, List.map_cons]
      simp only [List.mem_cons, q', false_or]
theorem pairs_zip (ps st : List Bts) : pairsD (ps.map dNs) (st.map dNs) = (ps.zip st).map fun q => .tuple [dNs q.1, dNs q.2] := by
  unfold pairsD
  rw [List.zip_map, List.map_map]
  rfl
theorem shp_dSt (st : Sts) : shp 2 (dSt st) := shp_tuple st fun p _ => shp_nats p
theorem noscr_dSt (st : Sts) : noscr (dSt st) = true := by
  show noscrs _ = true
  exact noscrs_map noscr_nats _
theorem ltr_mem {ps : List Bts} (ok : okP ps) (k : Int) : k ∈ (ltr256 ps).map (fun (n : Nat) => (n : Int)) ↔ k ∈ ps.flatMap fun p => p.map fun (b : Nat) => (b : Int) := by
  simp only [ltr256, List.mem_map, List.mem_filter, List.mem_range, List.mem_flatMap, List.any_eq_true, decide_eq_true_eq]
  constructor
  · rintro ⟨b, ⟨_, p, hp, hb⟩, rfl⟩
    exact ⟨p, hp, b, hb, rfl⟩
  · rintro ⟨p, hp, b, hb, rfl⟩
    have := (ok.2.1 p hp).2 b hb
    exact ⟨b, ⟨by simp at this; omega, p, hp, hb⟩, rfl⟩
theorem ltr_sorted (ps : List Bts) : ((ltr256 ps).map fun (n : Nat) => (n : Int)).Pairwise (· < ·) := by
  rw [List.pairwise_map]
  have : (ltr256 ps).Pairwise (· < ·) := List.Pairwise.filter _ List.pairwise_lt_range
  exact this.imp fun h => by omega
theorem othr_eq (ps : List Bts) : ((List.range 256).filter fun (b : Nat) => !decide ((b : Int) ∈ (ltr256 ps).map fun (n : Nat) => (n : Int))).take 1 = othr ps := by
  unfold othr
  congr 1
  refine List.filter_congr fun b hb => ?_
  have hb' : b < 256 := by simpa using hb
  have key : ((b : Int) ∈ (ltr256 ps).map fun (n : Nat) => (n : Int)) ↔ (ps.any fun p => decide (b ∈ p)) = true := by
    constructor
    · intro h
      obtain ⟨a, ha, e⟩ := List.mem_map.mp h
      have : a = b := by omega
      subst this
      exact (List.mem_filter.mp ha).2
    · intro h
      exact List.mem_map.mpr ⟨b, List.mem_filter.mpr ⟨by simpa using hb', h⟩, rfl⟩
  cases hB : ps.any fun p => decide (b ∈ p) with
  | true => rw [decide_eq_true (key.mpr hB)]
  | false => rw [decide_eq_false fun h => by rw [key.mp h] at hB; cases hB]
section
variable {P : Program} {w : World} {K : PySem.W.Frag} {mg : Str → Option Value} {base : Heap}
theorem w_name_table {f : Addr} {fd : FuncData} (Fn : FnP K "name_table" s_name_table f fd) (hm : mg "name_table" = some (.ref f)) (bn : BN mg) (cg : CG K w mg) (f1 : FnF P w K mg base "opened" 1 d_opened) (f2 : FnF P w K mg base "moved" 2 d_moved) : FnF P w K mg base "name_table" 5 (d_name_table w) := by
  refine fn_mk Fn hm c_name_table (fun ds r ⟨_, _, h, _⟩ => by rw [h]; rfl) (fun _ _ _ _ _ _ us hl => match us, hl with | [_], _ => rfl) fun X F xd ds r ⟨ps, ok, h, hr⟩ => ?_
  subst h hr
  have hp20 : ∀ p ∈ ps, p.length ≤ 20 := fun p hp => (ok.2.1 p hp).1
  have hpl := ok.1
  refine set_ F xd 1 (e_sortedSet2 F bn 2 3 2 ps dNs (fun p => p) dN (src_list (nm F 0)) (fun p (b : Nat) => (b : Int)) ([97, 98, 42, 46]) (by decide) (fun p hp b hb => by have := (ok.2.1 p hp).2 b hb; simp at this ⊢; omega) ((ltr256 ps).map fun (n : Nat) => (n : Int)) (fun l h1 h2 => strict_one h1 (ltr_sorted ps) fun k => by rw [h2, ltr_mem ok]) (fun _ _ => rfl) (fun _ _ => rfl) (fun Y FY p hp b hb => nm FY 3)) ?_
  refine set_ F xd 4 (d := .list ((othr ps).map dN)) (e_cast (e_slL (lcN F 3 (List.range 256) (fun (i : Nat) => .int (0 + (i : Int))) (src_rng1 F bn e_int (by decide) (by decide) rfl) (fun b => !decide ((b : Int) ∈ (ltr256 ps).map fun (n : Nat) => (n : Int))) dN (fun Y FY b hb => .one (t_cast (t_nin (nm FY 3) (nm FY 1) rfl rfl (us := ((ltr256 ps).map fun (n : Nat) => (n : Int)).map V.int) (by simp [flatD, Function.comp_def])) (by rw [inV_ints, show (0 + (b : Int)) = b by omega]))) (fun Y FY b hb _ => e_cast (nm FY 3) (by show PyData.int (0 + (b : Int)) = PyData.int b; rw [show (0 + (b : Int)) = b by omega])) (by decide)) .none (.some e_int)) ?_) ?_
  · have := cut_to (((List.range 256).filter fun (b : Nat) => !decide ((b : Int) ∈ (ltr256 ps).map fun (n : Nat) => (n : Int))).map dN) 1
    rw [show ((1 : Nat) : Int) = 1 from rfl] at this
    rw [this, ← List.map_take, othr_eq]
  refine set_ F xd 5 (d := dSt (stS ps)) (e_cast (e_tupleL F bn (lcA F 2 ps dNs (src_list (nm F 0)) (fun p => dNs (opn p [0])) (fun Y FY p hp => ca2 FY f1 (nm FY 2) (tu1 e_int) ⟨p, [0], .tuple [.int 0], hp20 p hp, by decide, by simp, .inl rfl, rfl, rfl⟩) (by omega)) rfl) (by simp [dSt, stS])) ?_
  refine setN1 F xd 6 (tk := .inr (stS ps)) (v := some []) (nm F 5) tu0 ?_
  refine setF F xd 7 (ds := [dSt (stS ps)]) (ef_list (as_cons (nm F 5) as_nil) (by simp)) ?_
  have ls0 : (((othr ps).map dN) ++ (((ltr256 ps).map fun (n : Nat) => (n : Int)).map PyData.int ++ [])) = (othr ps ++ ltr256 ps).map dN := by simp [Function.comp_def]
  have lsl : (othr ps ++ ltr256 ps).length ≤ 300 := by
    have h1 : (othr ps).length ≤ 1 := by unfold othr; rw [List.length_take]; omega
    have h2 : (ltr256 ps).length ≤ 256 := Nat.le_trans (List.length_filter_le _ _) (by simp)
    rw [List.length_append]
    omega
  have hnms : bfs ps (othr ps ++ ltr256 ps) 600 [(stS ps, [])] 0 = nmsM ps := rfl
  generalize hL : othr ps ++ ltr256 ps = ls at ls0 lsl hnms
  have n0 : nOk ps [(stS ps, [])] := ⟨fun x hx => by simp at hx; rw [hx]; exact ⟨[], rfl⟩, by simp, by simp⟩
  refine ss_cons (s_while F (fun m Γ' => ∃ (at_ : Nat) (ns : List (Sts × Bts)) (s2 s3 s8 s9 s10 s11 s12 : Sl), m + at_ = 600 ∧ at_ ≤ ns.length ∧ nOk ps ns ∧ bfs ps ls m ns at_ = nmsM ps ∧
    Γ' = [.dat (.list (ps.map dNs)), .dat (.list (((ltr256 ps).map fun (n : Nat) => (n : Int)).map .int)), s2, s3, .dat (.list ((othr ps).map dN)), .dat (dSt (stS ps)), .ob (oN X.K w (nmE ns)), .ob (oL X.K (((ns.drop at_).map (·.1)).map dSt)), s8, s9, s10, s11, s12]) 600 ⟨0, [(stS ps, [])], .un, .un, .un, .un, .un, .un, .un, rfl, by simp, n0, hnms, rfl⟩ ?_)
  rintro m Γ' ⟨at_, ns, s2, s3, s8, s9, s10, s11, s12, hm, hat, nok, hb, rfl⟩
  have hle := nok.le ok
  refine ⟨decide (at_ < ns.length), ?_, fun h => ?_, fun h => ?_⟩
  · refine t_borrow 7 rfl (t_cast (t_neD F (x := .list (((ns.drop at_).map (·.1)).map dSt)) (nm F 7) li0 (by show noscrs _ = true; exact noscrs_map noscr_dSt _) rfl (shp_shaped (shp_list _ fun st _ => shp_dSt st)) rfl) ?_)
    rw [eqv_nil]
    by_cases q : at_ < ns.length
    · rw [decide_eq_true q]
      cases hd : (ns.drop at_).map (·.1) with
      | nil =>
        have := congrArg List.length hd
        simp at this
        omega
      | cons a l => rfl
    · rw [decide_eq_false q, List.drop_eq_nil_of_le (by omega)]
      rfl
  · have hlt : at_ < ns.length := of_decide_eq_true h
    have he : ns[at_]? = some ns[at_] := List.getElem?_eq_getElem hlt
    have hem := List.getElem_mem hlt
    generalize ns[at_] = e at he hem
    have hdr : ns.drop at_ = e :: ns.drop (at_ + 1) := by
      obtain ⟨h1, h2⟩ := List.getElem?_eq_some_iff.mp he
      rw [← h2, List.getElem_cons_drop]
    obtain ⟨e1l, e1g⟩ := nok.st e hem
    have erch := nok.reach e hem
    have elen := nok.len e hem
    refine set_pop0 F xd 8 7 (d := dSt e.1) (ds := ((ns.drop (at_ + 1)).map (·.1)).map dSt) (by rw [hdr]; rfl) ?_
    refine forN F xd 3 ls dN (by
      rw [← ls0]
      exact src_list (e_list (as_star (nm F 4) rfl (as_star (nm F 1) rfl as_nil)) (by rw [ls0, List.length_map]; omega))) (fun n Γ' => ∃ s2 s3 s9 s10 s11 s12, Γ' = [.dat (.list (ps.map dNs)), .dat (.list (((ltr256 ps).map fun (n : Nat) => (n : Int)).map .int)), s2, s3, .dat (.list ((othr ps).map dN)), .dat (dSt (stS ps)), .ob (oN X.K w (nmE (bfsE ps (ls.take n) ns e))), .ob (oL X.K ((((bfsE ps (ls.take n) ns e).drop (at_ + 1)).map (·.1)).map dSt)), .dat (dSt e.1), s9, s10, s11, s12]) ⟨s2, s3, s9, s10, s11, s12, rfl⟩ ?_ ?_
    · rintro n b Γ' hbn ⟨s2, s3, s9, s10, s11, s12, rfl⟩
      have nx : bfsE ps (ls.take (n + 1)) ns e = bfs1 ps e (bfsE ps (ls.take n) ns e) b := by
        unfold bfsE
        rw [take_snoc hbn, List.foldl_append]
        rfl
      rw [nx]
      have hok := nOk.steps erch (ls.take n) nok elen
      obtain ⟨more, hmore⟩ := bfsE_pre (ps := ps) (e := e) (ls.take n) ns
      generalize bfsE ps (ls.take n) ns e = acc at hok hmore ⊢
      have hacc : acc[at_]? = some e := by rw [hmore, List.getElem?_append_left hlt]; exact he
      have hal : at_ < acc.length := (List.getElem?_eq_some_iff.mp hacc).1
      have hle2 := hok.le ok
      have helen : e.2.length < acc.length := hok.len e (List.mem_of_getElem? hacc)
      have hstep := (hok.step erch helen b)
      have hle3 := hstep.le ok
      refine set_ F xd 9 (d := dSt (mvS ps e.1 b)) (e_cast (e_tupleL F bn (lcA2 F 2 10 (ps.zip e.1) (fun q => dNs q.1) (fun q => dNs q.2) (by
        rw [← pairs_zip]
        exact src_zipM F bn (nm F 0) (nm F 8) (by simp [e1l])) (fun q => dNs (mvd q.1 q.2 b)) (fun Y FY q hq => ?_) ?_) rfl) (by simp [dSt, mvS, Function.comp_def])) ?_
      · obtain ⟨g1, g2⟩ := e1g q hq
        have hq1 : q.1 ∈ ps := (List.of_mem_zip hq).1
        have := hp20 _ hq1
        exact ca3 FY f2 (nm FY 2) (nm FY 10) (nm FY 3) ⟨q.1, q.2, b, by omega, by omega, g1, rfl, rfl⟩
      · rw [List.length_zip]
        omega
      refine when_ (v := decide (mvS ps e.1 b ∉ acc.map (·.1))) (t_cast (t_ninN F 6 (en := nmE acc) (tk := .inr (mvS ps e.1 b)) (nm F 9)) (by rw [lk_nm_none, decide_not])) (fun h1 => ?_) (fun h1 => ?_)
      · have hn : mvS ps e.1 b ∉ acc.map (·.1) := of_decide_eq_true h1
        have hb1 : bfs1 ps e acc b = acc ++ [(mvS ps e.1 b, e.2 ++ [b])] := by unfold bfs1; rw [if_neg hn]
        rw [hb1] at hle3 ⊢
        rw [List.length_append, List.length_singleton] at hle3
        have hnl : (nmE acc).length = acc.length := by simp [nmE]
        refine when_ (v := false) (t_cast (t_eq (e_lenN F bn 6 (en := nmE acc) (by omega)) (gi F cg.mstates) (.int _ _)) (decide_eq_false (by omega))) (fun h2 => by cases h2) (fun _ => ?_)
        have hlk : lk (nmE acc) (tkN (.inr (mvS ps e.1 b))) = none := by
          have := lk_nm_none (st := mvS ps e.1 b) (ns := acc)
          rw [decide_eq_false hn] at this
          simpa using this
        refine putN F 6 (en := nmE acc) (tk := .inr (mvS ps e.1 b)) (v := some (e.2 ++ [b])) (nm F 9) (e_cast (e_tup (as_star (e_getO F 6 (en := nmE acc) (tk := .inr e.1) (v := some e.2) (nm F 8) (lk_nm hok.nd hacc)) rfl (as_cons (nm F 3) as_nil)) (by simp; omega)) (by simp [tvD, natsD])) hlk (by omega) ?_
        have e1 : nmE (acc ++ [(mvS ps e.1 b, e.2 ++ [b])]) = nmE acc ++ [(.inr (mvS ps e.1 b), some (e.2 ++ [b]))] := by simp [nmE]
        have e2 : (((acc ++ [(mvS ps e.1 b, e.2 ++ [b])]).drop (at_ + 1)).map (·.1)).map dSt = ((acc.drop (at_ + 1)).map (·.1)).map dSt ++ [dSt (mvS ps e.1 b)] := by
          rw [List.drop_append_of_le_length (by omega), List.map_append, List.map_append]
          rfl
        rw [e1, e2]
        exact app F 7 (ds := ((acc.drop (at_ + 1)).map (·.1)).map dSt) (nm F 9) (ss_nil (ss_nil ⟨_, _, _, _, _, _, rfl⟩)) (by simp; omega)
      · have hn : mvS ps e.1 b ∈ acc.map (·.1) := by
          have := of_decide_eq_false h1
          exact Decidable.of_not_not this
        have hb1 : bfs1 ps e acc b = acc := by unfold bfs1; rw [if_pos hn]
        rw [hb1]
        exact ss_nil ⟨_, _, _, _, _, _, rfl⟩
    · rintro Γ' ⟨s2, s3, s9, s10, s11, s12, rfl⟩
      obtain ⟨m', rfl⟩ : ∃ m', m = m' + 1 := ⟨m - 1, by omega⟩
      rw [List.take_length]
      obtain ⟨more, hmore⟩ := bfsE_pre (ps := ps) (e := e) ls ns
      refine ss_nil ⟨m', by omega, at_ + 1, bfsE ps ls ns e, s2, s3, _, s9, s10, s11, s12, by omega, by rw [hmore, List.length_append]; omega, nOk.steps erch ls nok elen, ?_, rfl⟩
      rw [← hb]
      conv => rhs; unfold bfs
      rw [he]
  · have hge : at_ = ns.length := by
      have : ¬ at_ < ns.length := of_decide_eq_false h
      omega
    have hfin : nmsM ps = ns := by
      rw [← hb]
      obtain ⟨m', rfl⟩ : ∃ m', m = m' + 1 := ⟨m - 1, by omega⟩
      unfold bfs
      rw [List.getElem?_eq_none (by omega)]
    refine setN0 F xd 11 ?_
    refine ss_freezeN (i := 6) (en := nmE ns) rfl ?_
    refine forN F xd 8 ns (fun e => dSt e.1) (by
      have e : (ns.map fun e => dSt e.1) = (nmE ns).map fun (e : En) => tkD e.1 := by simp [nmE, Function.comp_def, tkD, dSt, natsD, dNs]
      rw [e]
      exact src_tab F (nm F 6)) (fun n Γ' => ∃ s2 s3 s7 s8 s9 s10 s12, Γ' = [.dat (.list (ps.map dNs)), .dat (.list (((ltr256 ps).map fun (n : Nat) => (n : Int)).map .int)), s2, s3, .dat (.list ((othr ps).map dN)), .dat (dSt (stS ps)), .dat (tabD (hsh w (nmE ns))), s7, s8, s9, s10, .ob (oN X.K w (tbE ((ns.take n).foldl (tabS ps) []))), s12]) ⟨_, _, _, _, _, _, _, rfl⟩ ?_ ?_
    · rintro n e Γ' hen ⟨s2, s3, s7, s8, s9, s10, s12, rfl⟩
      rw [take_fold (tabS ps) _ hen]
      have hem := List.mem_of_getElem? hen
      obtain ⟨e1l, e1g⟩ := nok.st e hem
      have htl := tabs_len (ps := ps) (ns.take n) []
      rw [List.length_take, List.length_nil] at htl
      generalize (ns.take n).foldl (tabS ps) [] = tb at htl ⊢
      have htb : (tbE tb).length ≤ 1000 := by simp [tbE]; omega
      refine set_ F xd 12 (d := tkD (.inl (accS ps e.1))) (e_cast (e_tupleL F bn (lcA2 F 2 10 (ps.zip e.1) (fun q => dNs q.1) (fun q => dNs q.2) (by
        rw [← pairs_zip]
        exact src_zipM F bn (nm F 0) (nm F 8) (by simp [e1l])) (fun q => .bool (decide (q.1.length ∈ q.2))) (fun Y FY q hq => ?_) ?_) rfl) (by simp [tkD, accS, Function.comp_def])) ?_
      · refine e_cast (e_in (e_lenT FY bn (ds := q.1.map dN) (nm FY 2) rfl) (nm FY 10) rfl rfl (us := (q.2.map fun (n : Nat) => (n : Int)).map V.int) (by simp [flatD, Function.comp_def])) ?_
        rw [inV_ints, List.length_map]
        congr 1
        refine decide_eq_decide.mpr ?_
        rw [List.mem_map]
        constructor
        · rintro ⟨a, h, e⟩
          rwa [show q.1.length = a by omega]
        · exact fun h => ⟨_, h, rfl⟩
      · rw [List.length_zip]
        omega
      refine when_ (v := decide (accS ps e.1 ∉ tb.map (·.1))) (t_cast (t_ninN F 11 (en := tbE tb) (tk := .inl (accS ps e.1)) (nm F 12)) (by rw [lk_tb_none, decide_not])) (fun h1 => ?_) (fun h1 => ?_)
      · have hn : accS ps e.1 ∉ tb.map (·.1) := of_decide_eq_true h1
        have hlk : lk (tbE tb) (tkN (.inl (accS ps e.1))) = none := by
          have := lk_tb_none (key := accS ps e.1) (tb := tb)
          rw [decide_eq_false hn] at this
          simpa using this
        have hb1 : tabS ps tb e = tb ++ [(accS ps e.1, e.2)] := by unfold tabS; rw [if_neg hn]
        rw [hb1]
        have e1 : tbE (tb ++ [(accS ps e.1, e.2)]) = tbE tb ++ [(.inl (accS ps e.1), some e.2)] := by simp [tbE]
        rw [e1]
        exact putN F 11 (en := tbE tb) (tk := .inl (accS ps e.1)) (v := some e.2) (nm F 12) (e_getT F (tk := .inr e.1) (en := nmE ns) (nm F 6) (nmE_nd nok.nd) (nm F 8) (lk_nm nok.nd hen)) hlk htb (ss_nil (ss_nil ⟨_, _, _, _, _, _, _, rfl⟩))
      · have hn : accS ps e.1 ∈ tb.map (·.1) := by
          have := of_decide_eq_false h1
          exact Decidable.of_not_not this
        have hb1 : tabS ps tb e = tb := by unfold tabS; rw [if_pos hn]
        rw [hb1]
        exact ss_nil ⟨_, _, _, _, _, _, _, rfl⟩
    · rintro Γ' ⟨s2, s3, s7, s8, s9, s10, s12, rfl⟩
      rw [List.take_length]
      refine ss_freezeN (i := 11) (en := tbE (ns.foldl (tabS ps) [])) rfl (ret (nm F 11) ?_)
      have : ntb ps = ns.foldl (tabS ps) [] := by unfold ntb; rw [hfin]
      rw [this]
      rfl
end
end Z
set_option Elab.async false
set_option linter.all false
set_option maxRecDepth 100000
set_option maxHeartbeats 4000000
/-! The law's own defs: cells, rows, patterns, bodies, terms. -/
namespace Z
open PySem PySem.Spec PyProof.Rows L2 Evl
def scrD (ns : List Int) : PyData := .dict (ns.map fun n => (.int n, .none))
def cellM (ns : List Int) (k : Nat) : Int := ns.getD k 0
def absI (i : Int) : Int := if i < 0 then -i else i
def shN (l : Int) : Nat → Int
  | 0 => l
  | n + 1 => shN l n / 2 ^ (8 : Int).toNat
def stN (s : Int) : Nat → Int
  | 0 => s
  | n + 1 => stN s n * 48271 % 2147483647
def rowB (l : Int) (n : Nat) : List Int := (List.range n).map fun k => Builtin.bitAnd (shN l k) 255
def rowS (s : Int) (n : Nat) : List Int := (List.range n).map fun k => Builtin.bitAnd (stN s (k + 1) / 7 + stN s (k + 1)) 255
def rowM (c : Int) (n : Nat) : List Int := if 10 ^ (18 : Int).toNat ≤ absI c then rowB (absI c) n else rowS (absI c % 2147483629 + 1) n
def pbL : List Nat := [97, 98, 42, 42, 46]
def pbAt (i : Int) : Nat := pbL.getD i.toNat 97
def patM (c : Int) : Bts := (rowM (c / 6) (Builtin.bitAnd c 3).toNat).map fun b => pbAt (b % 5)
def nfAt (i : Int) : NF := [NF.size, .pages, .acts, .depth].getD i.toNat .size
def sgAt (i : Int) : Sg := [Sg.lt, .le, .eq, .ge, .gt].getD i.toNat .lt
def kdAt (i : Int) : Kd := [Kd.still, .picture, .film, .sheet, .folio, .crate, .no].getD i.toNat .still
def acAt (i : Int) : Ac := acL6.getD i.toNat .open_
def n1At (i : Int) : Int := [2147483647, 100, 99, 0].getD i.toNat 0
def n2At (i : Int) : Int := [100, 8, 9, 4].getD i.toNat 0
def numB (wh l : Int) : Int := if 0 < wh ∧ l / 60 % 6 = 1 then n2At (Builtin.bitAnd (l / 360) 3) else if wh = 0 ∧ l / 60 % 4 = 1 then n1At (Builtin.bitAnd (l / 240) 3) else l / 5 % 12
def bodyM (c : Int) : Bd := if c % 9 < 4 then .num (nfAt (c % 9)) (sgAt (c / 9 % 5)) (numB (c % 9) (c / 9)) else if c % 9 = 4 then .isk (kdAt (c / 9 % 7)) else if c % 9 = 5 then .could (kdAt (c / 9 % 6)) else if c % 9 = 6 then .act (acAt (c / 9 % 6)) else .nam (patM (c / 9))
def termM (c : Int) : Tm := ⟨decide (c % 3 = 1), bodyM (c / 3)⟩
theorem and3 (x : Int) : 0 ≤ Builtin.bitAnd x 3 ∧ Builtin.bitAnd x 3 < 4 := by
  rw [show Builtin.bitAnd x 3 = x % 4 from by first | exact bitAnd_m2 x | exact PySem.bitAnd_m2 x]
  omega
theorem at_of {α : Type} {f : α → PyData} {l : List α} {i : Int} {d0 : α} (h0 : 0 ≤ i) (h1 : i < l.length) : atI (l.map f) i = some (f (l.getD i.toNat d0)) := by
  have hl : i.toNat < l.length := by omega
  have := atI_nn (xs := l.map f) (i := i.toNat) (d := f (l.getD i.toNat d0)) (by
    rw [List.getElem?_map, List.getElem?_eq_getElem hl, List.getD_eq_getElem?_getD, List.getElem?_eq_getElem hl]
    rfl)
  rwa [show ((i.toNat : Nat) : Int) = i by omega] at this
section
variable {P : Program} {w : World} {K : PySem.W.Frag} {mg : Str → Option Value} {base : Heap}
def d_law_cell : List PyData → PyData → Prop := fun ds r => ∃ (ns : List Int) (k : Nat), ds = [scrD ns, dN k] ∧ r = .int (cellM ns k)
theorem w_law_cell {f : Addr} {fd : FuncData} (Fn : FnP K "_law_cell" s_law_cell f fd) (hm : mg "_law_cell" = some (.ref f)) (bn : BN mg) : FnF P w K mg base "_law_cell" 1 d_law_cell := by
  refine fn_mk Fn hm c_law_cell (fun ds r ⟨_, _, h, _⟩ => by rw [h]; rfl) (fun _ _ _ _ _ _ us hl => match us, hl with | [_, _], _ => rfl) fun X F xd ds r ⟨ns, k, h, hr⟩ => ?_
  subst h hr
  refine when_ (t_lt (nm F 1) (e_len F bn (nm F 0) (.scr ns) rfl)) (fun h => ?_) (fun h => ret e_int ?_)
  · have hk : k < ns.length := by have := of_decide_eq_true h; omega
    refine ret (e_int1 F bn (e_ixS (n := ns[k]) (nm F 0) (nm F 1) (atI_nn (List.getElem?_eq_getElem hk))) rfl) ?_
    simp [cellM, List.getD_eq_getElem?_getD, hk]
  · have hk : ¬ k < ns.length := by have := of_decide_eq_false h; omega
    simp only [cellM, List.getD_eq_getElem?_getD]
    rw [List.getElem?_eq_none (by omega)]
    rfl
def d_law_row : List PyData → PyData → Prop := fun ds r => ∃ (c : Int) (n : Nat), n ≤ 10 ∧ ds = [.int c, dN n] ∧ r = .list ((rowM c n).map .int)
theorem stN_bnd (s : Int) (hs : 0 ≤ s ∧ s < 2147483648) : ∀ n, 0 ≤ stN s n ∧ stN s n < 2147483648
  | 0 => hs
  | n + 1 => by
    show 0 ≤ stN s n * 48271 % 2147483647 ∧ stN s n * 48271 % 2147483647 < 2147483648
    omega
theorem range_snoc {m i n : Nat} (h : (List.range m)[n]? = some i) : n < m ∧ i = n := by
  have hl := (List.getElem?_eq_some_iff.mp h).1
  rw [List.length_range] at hl
  rw [List.getElem?_range hl] at h
  exact ⟨hl, (Option.some.inj h).symm⟩
theorem w_law_row {f : Addr} {fd : FuncData} (Fn : FnP K "_law_row" s_law_row f fd) (hm : mg "_law_row" = some (.ref f)) (bn : BN mg) : FnF P w K mg base "_law_row" 1 d_law_row := by
  refine fn_mk Fn hm c_law_row (fun ds r ⟨_, _, _, h, _⟩ => by rw [h]; rfl) (fun _ _ _ _ _ _ us hl => match us, hl with | [_, _], _ => rfl) fun X F xd ds r ⟨c, n, hn, h, hr⟩ => ?_
  subst h hr
  refine setF F xd 2 (ef_list as_nil (by decide)) ?_
  refine set_ F xd 3 (d := .int (absI c)) (e_abs F bn (nm F 0) rfl) ?_
  unfold rowM
  generalize absI c = l
  refine when_ (t_ge (nm F 3) (e_pow e_int e_int (by unfold CPow; decide))) (fun h => ?_) (fun h => ?_)
  · rw [if_pos (of_decide_eq_true h)]
    refine forN F xd 4 (List.range n) (fun (i : Nat) => .int (0 + (i : Int))) (src_rng1 F bn (n := (n : Nat)) (nm F 1) (by omega) (by omega) rfl) (fun m Γ' => ∃ s4 s5, Γ' = [.dat (.int c), .dat (dN n), .ob (oL X.K ((rowB l m).map .int)), .dat (.int (shN l m)), s4, s5]) ⟨_, _, rfl⟩ ?_ ?_
    · rintro m i Γ' hi ⟨s4, s5, rfl⟩
      obtain ⟨hm, rfl⟩ := range_snoc hi
      refine app F 2 (ds := (rowB l i).map .int) (e_and_ (nm F 3) e_int) ?_ (by simp [rowB]; omega)
      refine set_ F xd 3 (d := .int (shN l (i + 1))) (e_shr (nm F 3) e_int (by decide)) (ss_nil ⟨.dat (.int (0 + (i : Int))), s5, ?_⟩)
      simp [rowB, List.range_succ]
    · rintro Γ' ⟨s4, s5, rfl⟩
      refine ss_freeze (i := 2) rfl (ret (nm F 2) ?_)
      rw [List.length_range]
  · rw [if_neg (of_decide_eq_false h)]
    refine set_ F xd 5 (d := .int (l % 2147483629 + 1)) (e_add (e_mod (e_int1 F bn (nm F 3) rfl) e_int (by decide)) e_int) ?_
    have hs : 0 ≤ l % 2147483629 + 1 ∧ l % 2147483629 + 1 < 2147483648 := by omega
    generalize l % 2147483629 + 1 = s at hs
    refine forN F xd 4 (List.range n) (fun (i : Nat) => .int (0 + (i : Int))) (src_rng1 F bn (n := (n : Nat)) (nm F 1) (by omega) (by omega) rfl) (fun m Γ' => ∃ s4, Γ' = [.dat (.int c), .dat (dN n), .ob (oL X.K ((rowS s m).map .int)), .dat (.int l), s4, .dat (.int (stN s m))]) ⟨_, rfl⟩ ?_ ?_
    · rintro m i Γ' hi ⟨s4, rfl⟩
      obtain ⟨hm, rfl⟩ := range_snoc hi
      have hb := stN_bnd s hs i
      refine set_ F xd 5 (d := .int (stN s (i + 1))) (e_mod (e_int1 F bn (e_mul (nm F 5) e_int (.inr (by decide))) rfl) e_int (by decide)) ?_
      refine app F 2 (ds := (rowS s i).map .int) (e_and_ (e_add (e_div (nm F 5) e_int (by decide)) (nm F 5)) e_int) (ss_nil ⟨.dat (.int (0 + (i : Int))), ?_⟩) (by simp [rowS]; omega)
      simp [rowS, List.range_succ]
    · rintro Γ' ⟨s4, rfl⟩
      refine ss_freeze (i := 2) rfl (ret (nm F 2) ?_)
      rw [List.length_range]
def d_law_kinds : List PyData → PyData → Prop := fun ds r => ds = [] ∧ r = .list ([Kd.still, .picture, .film, .sheet, .folio, .crate].map fun k => .str k.str)
theorem w_law_kinds {f : Addr} {fd : FuncData} (Fn : FnP K "_law_kinds" s_law_kinds f fd) (hm : mg "_law_kinds" = some (.ref f)) : FnF P w K mg base "_law_kinds" 1 d_law_kinds := by
  refine fn_mk Fn hm c_law_kinds (fun ds r ⟨h, _⟩ => by rw [h]; rfl) (fun _ _ _ _ _ _ us hl => match us, hl with | [], _ => rfl) fun X F xd ds r ⟨h, hr⟩ => ?_
  subst h hr
  exact ret (e_list (as_cons e_str (as_cons e_str (as_cons e_str (as_cons e_str (as_cons e_str (as_cons e_str as_nil)))))) (by simp)) rfl
def d_law_acts : List PyData → PyData → Prop := fun ds r => ds = [] ∧ r = .list (acL6.map fun k => .str k.str)
theorem w_law_acts {f : Addr} {fd : FuncData} (Fn : FnP K "_law_acts" s_law_acts f fd) (hm : mg "_law_acts" = some (.ref f)) : FnF P w K mg base "_law_acts" 1 d_law_acts := by
  refine fn_mk Fn hm c_law_acts (fun ds r ⟨h, _⟩ => by rw [h]; rfl) (fun _ _ _ _ _ _ us hl => match us, hl with | [], _ => rfl) fun X F xd ds r ⟨h, hr⟩ => ?_
  subst h hr
  exact ret (e_list (as_cons e_str (as_cons e_str (as_cons e_str (as_cons e_str (as_cons e_str (as_cons e_str as_nil)))))) (by simp)) rfl
def d_law_pattern : List PyData → PyData → Prop := fun ds r => ∃ c : Int, ds = [.int c] ∧ r = dNs (patM c)
theorem w_law_pattern {f : Addr} {fd : FuncData} (Fn : FnP K "_law_pattern" s_law_pattern f fd) (hm : mg "_law_pattern" = some (.ref f)) (bn : BN mg) (f1 : FnF P w K mg base "_law_row" 1 d_law_row) : FnF P w K mg base "_law_pattern" 2 d_law_pattern := by
  refine fn_mk Fn hm c_law_pattern (fun ds r ⟨_, h, _⟩ => by rw [h]; rfl) (fun _ _ _ _ _ _ us hl => match us, hl with | [_], _ => rfl) fun X F xd ds r ⟨c, h, hr⟩ => ?_
  subst h hr
  obtain ⟨h3, h4⟩ := and3 c
  refine set_ F xd 1 (ca2 F f1 (e_div (nm F 0) e_int (by decide)) (e_and_ (e_int1 F bn (nm F 0) rfl) e_int) ⟨c / 6, (Builtin.bitAnd c 3).toNat, by omega, by show _ = [_, PyData.int (((Builtin.bitAnd c 3).toNat : Nat) : Int)]; rw [show (((Builtin.bitAnd c 3).toNat : Nat) : Int) = Builtin.bitAnd c 3 by omega], rfl⟩) ?_
  have hl : (rowM (c / 6) (Builtin.bitAnd c 3).toNat).length ≤ 4 := by
    unfold rowM
    split <;> simp [rowB, rowS] <;> omega
  unfold patM
  generalize rowM (c / 6) (Builtin.bitAnd c 3).toNat = row at hl
  refine ret (e_tupleL F bn (lcA F 2 row .int (src_list (nm F 1)) (fun b => dN (pbAt (b % 5))) (fun Y FY b hb => e_ixL (ds := pbL.map dN) (e_list (as_cons e_int (as_cons e_int (as_cons e_int (as_cons e_int (as_cons e_int as_nil))))) (by decide)) (e_mod (e_int1 FY bn (nm FY 2) rfl) e_int (by decide)) (at_of (by omega) (by show b % 5 < 5; omega))) (by omega)) rfl) ?_
  simp [dNs, Function.comp_def]
theorem or_false_dec : True := trivial
def d_law_body : List PyData → PyData → Prop := fun ds r => ∃ c : Int, ds = [.int c] ∧ r = dB (bodyM c)
theorem w_law_body {f : Addr} {fd : FuncData} (Fn : FnP K "_law_body" s_law_body f fd) (hm : mg "_law_body" = some (.ref f)) (bn : BN mg) (f1 : FnF P w K mg base "_law_kinds" 1 d_law_kinds) (f2 : FnF P w K mg base "_law_acts" 1 d_law_acts) (f3 : FnF P w K mg base "_law_pattern" 2 d_law_pattern) : FnF P w K mg base "_law_body" 3 d_law_body := by
  refine fn_mk Fn hm c_law_body (fun ds r ⟨_, h, _⟩ => by rw [h]; rfl) (fun _ _ _ _ _ _ us hl => match us, hl with | [_], _ => rfl) fun X F xd ds r ⟨c, h, hr⟩ => ?_
  subst h hr
  refine set_ F xd 1 (d := .int (c % 9)) (e_mod (e_int1 F bn (nm F 0) rfl) e_int (by decide)) ?_
  refine set_ F xd 2 (d := .int (c / 9)) (e_div (nm F 0) e_int (by decide)) ?_
  unfold bodyM
  have hw0 : 0 ≤ c % 9 := by omega
  generalize c % 9 = wh at hw0
  generalize c / 9 = l
  refine when_ (t_lt (nm F 1) e_int) (fun h => ?_) (fun h => ?_)
  · have hw4 : wh < 4 := of_decide_eq_true h
    rw [if_pos hw4]
    refine set_ F xd 3 (d := .int (l / 5 % 12)) (e_mod (e_int1 F bn (e_div (nm F 2) e_int (by decide)) rfl) e_int (by decide)) ?_
    have fin : ∀ (n : Int), Ss X [.dat (.int c), .dat (.int wh), .dat (.int l), .dat (.int n)] (defBody s_law_body |>.drop 0) ⟨fun _ => False, fun _ => True, fun _ => False, fun _ => False⟩ → True := fun _ _ => trivial
    clear fin
    refine ss_cons (s_if (v := decide (wh = 0) && decide (l / 60 % 4 = 1)) (t_and2 (t_eq (nm F 1) e_int (.int _ _)) fun _ => t_eq (e_mod (e_int1 F bn (e_div (nm F 2) e_int (by decide)) rfl) e_int (by decide)) e_int (.int _ _)) (fun h1 => ?_) (fun h1 => ss_nil ?_))
    · obtain ⟨h5, h6⟩ := and3 (l / 240)
      have hc : wh = 0 ∧ l / 60 % 4 = 1 := by simpa using h1
      refine set_ F xd 3 (d := .int (n1At (Builtin.bitAnd (l / 240) 3))) (e_ixL (ds := [2147483647, 100, 99, 0].map PyData.int) (e_list (as_cons e_int (as_cons e_int (as_cons e_int (as_cons e_int as_nil)))) (by decide)) (e_and_ (e_int1 F bn (e_div (nm F 2) e_int (by decide)) rfl) e_int) (at_of h5 h6)) (ss_nil ?_)
      refine ss_cons (s_if (v := false) (t_cast (t_and2 (v := false) (t_gt (nm F 1) e_int) fun h => absurd (of_decide_eq_true h) (by omega)) (by simp)) (fun h => by cases h) (fun _ => ss_nil ?_))
      have e : numB wh l = n1At (Builtin.bitAnd (l / 240) 3) := by
        unfold numB
        rw [if_neg (by omega), if_pos hc]
      rw [e]
      exact ret (tu3 (e_ixL (ds := [NF.size, .pages, .acts, .depth].map fun k => PyData.str k.str) (e_list (as_cons e_str (as_cons e_str (as_cons e_str (as_cons e_str as_nil)))) (by decide)) (nm F 1) (at_of hw0 hw4)) (e_ixL (ds := [Sg.lt, .le, .eq, .ge, .gt].map fun k => PyData.str k.str) (e_list (as_cons e_str (as_cons e_str (as_cons e_str (as_cons e_str (as_cons e_str as_nil))))) (by decide)) (e_mod (e_int1 F bn (nm F 2) rfl) e_int (by decide)) (at_of (by omega) (by show l % 5 < 5; omega))) (nm F 3)) rfl
    · refine ss_cons (s_if (v := decide (0 < wh) && decide (l / 60 % 6 = 1)) (t_and2 (t_gt (nm F 1) e_int) fun _ => t_eq (e_mod (e_int1 F bn (e_div (nm F 2) e_int (by decide)) rfl) e_int (by decide)) e_int (.int _ _)) (fun h2 => ?_) (fun h2 => ss_nil ?_))
      · obtain ⟨h5, h6⟩ := and3 (l / 360)
        have hc : 0 < wh ∧ l / 60 % 6 = 1 := by simpa using h2
        refine set_ F xd 3 (d := .int (n2At (Builtin.bitAnd (l / 360) 3))) (e_ixL (ds := [100, 8, 9, 4].map PyData.int) (e_list (as_cons e_int (as_cons e_int (as_cons e_int (as_cons e_int as_nil)))) (by decide)) (e_and_ (e_int1 F bn (e_div (nm F 2) e_int (by decide)) rfl) e_int) (at_of h5 h6)) (ss_nil ?_)
        have e : numB wh l = n2At (Builtin.bitAnd (l / 360) 3) := by
          unfold numB
          rw [if_pos hc]
        rw [e]
        exact ret (tu3 (e_ixL (ds := [NF.size, .pages, .acts, .depth].map fun k => PyData.str k.str) (e_list (as_cons e_str (as_cons e_str (as_cons e_str (as_cons e_str as_nil)))) (by decide)) (nm F 1) (at_of hw0 hw4)) (e_ixL (ds := [Sg.lt, .le, .eq, .ge, .gt].map fun k => PyData.str k.str) (e_list (as_cons e_str (as_cons e_str (as_cons e_str (as_cons e_str (as_cons e_str as_nil))))) (by decide)) (e_mod (e_int1 F bn (nm F 2) rfl) e_int (by decide)) (at_of (by omega) (by show l % 5 < 5; omega))) (nm F 3)) rfl
      · have e : numB wh l = l / 5 % 12 := by
          unfold numB
          rw [if_neg (by simpa using h2), if_neg (by simpa using h1)]
        rw [e]
        exact ret (tu3 (e_ixL (ds := [NF.size, .pages, .acts, .depth].map fun k => PyData.str k.str) (e_list (as_cons e_str (as_cons e_str (as_cons e_str (as_cons e_str as_nil)))) (by decide)) (nm F 1) (at_of hw0 hw4)) (e_ixL (ds := [Sg.lt, .le, .eq, .ge, .gt].map fun k => PyData.str k.str) (e_list (as_cons e_str (as_cons e_str (as_cons e_str (as_cons e_str (as_cons e_str as_nil))))) (by decide)) (e_mod (e_int1 F bn (nm F 2) rfl) e_int (by decide)) (at_of (by omega) (by show l % 5 < 5; omega))) (nm F 3)) rfl
  rw [if_neg (of_decide_eq_false h)]
  refine when_ (t_eq (nm F 1) e_int (.int _ _)) (fun h => ?_) (fun h => ?_)
  · rw [if_pos (of_decide_eq_true h)]
    exact ret (tu2 e_str (e_ixL (ds := [Kd.still, .picture, .film, .sheet, .folio, .crate, .no].map fun k => PyData.str k.str) (e_catL (ca0 F f1 ⟨rfl, rfl⟩) (li1 e_str) (by decide)) (e_mod (e_int1 F bn (nm F 2) rfl) e_int (by decide)) (at_of (by omega) (by show l % 7 < 7; omega)))) rfl
  rw [if_neg (of_decide_eq_false h)]
  refine when_ (t_eq (nm F 1) e_int (.int _ _)) (fun h => ?_) (fun h => ?_)
  · rw [if_pos (of_decide_eq_true h)]
    refine ret (tu2 e_str (e_ixL (ca0 F f1 ⟨rfl, rfl⟩) (e_mod (e_int1 F bn (nm F 2) rfl) e_int (by decide)) (at_of (d0 := .still) (by omega) (by show l % 6 < 6; omega)))) ?_
    have : [Kd.still, .picture, .film, .sheet, .folio, .crate].getD (l % 6).toNat .still = kdAt (l % 6) := by
      have h6 : (l % 6).toNat < 6 := by omega
      unfold kdAt
      generalize (l % 6).toNat = q at h6
      match q, h6 with
      | 0, _ | 1, _ | 2, _ | 3, _ | 4, _ | 5, _ => rfl
    show PyData.tuple [_, .str _] = _
    rw [this]
    rfl
  rw [if_neg (of_decide_eq_false h)]
  refine when_ (t_eq (nm F 1) e_int (.int _ _)) (fun h => ?_) (fun h => ?_)
  · rw [if_pos (of_decide_eq_true h)]
    exact ret (tu2 e_str (e_ixL (ca0 F f2 ⟨rfl, rfl⟩) (e_mod (e_int1 F bn (nm F 2) rfl) e_int (by decide)) (at_of (d0 := .open_) (by omega) (by show l % 6 < 6; omega)))) rfl
  rw [if_neg (of_decide_eq_false h)]
  exact ret (tu2 e_str (ca1 F f3 (nm F 2) ⟨l, rfl, rfl⟩)) rfl
def d_law_term : List PyData → PyData → Prop := fun ds r => ∃ c : Int, ds = [.int c] ∧ r = dT (termM c)
theorem w_law_term {f : Addr} {fd : FuncData} (Fn : FnP K "_law_term" s_law_term f fd) (hm : mg "_law_term" = some (.ref f)) (bn : BN mg) (f1 : FnF P w K mg base "_law_body" 3 d_law_body) : FnF P w K mg base "_law_term" 4 d_law_term := by
  refine fn_mk Fn hm c_law_term (fun ds r ⟨_, h, _⟩ => by rw [h]; rfl) (fun _ _ _ _ _ _ us hl => match us, hl with | [_], _ => rfl) fun X F xd ds r ⟨c, h, hr⟩ => ?_
  subst h hr
  exact ret (tu2 (e_eq (e_mod (e_int1 F bn (nm F 0) rfl) e_int (by decide)) e_int (.int _ _)) (ca1 F f1 (e_div (nm F 0) e_int (by decide)) ⟨c / 3, rfl, rfl⟩)) rfl
end
end Z
set_option Elab.async false
set_option linter.all false
set_option maxRecDepth 100000
set_option maxHeartbeats 4000000
namespace Z
open PySem PySem.Spec PyProof.Rows L2 Evl
/-! ### _law_match -/
def preO (row : List Bool) (k : Nat) : Bool := (row.take (k + 1)).any id
def stpO (row : List Bool) (nm : Bts) (b : Nat) (k : Nat) : Bool := match k with
  | 0 => false
  | k + 1 => row.getD k false && decide (nm.getD k 0 = b)
def dpS (nm : Bts) (row : List Bool) (b : Nat) : List Bool := if b = 42 then (List.range (nm.length + 1)).map (preO row) else (List.range (nm.length + 1)).map (stpO row nm b)
def row0 (n : Nat) : List Bool := true :: List.replicate n false
def lawMt (p nm : Bts) : Bool := (p.foldl (dpS nm) (row0 nm.length)).getD nm.length false
theorem dpS_len (nm : Bts) (row : List Bool) (b : Nat) : (dpS nm row b).length = nm.length + 1 := by
  unfold dpS
  split <;> simp
theorem dp_len (nm : Bts) : ∀ (p : Bts) (row : List Bool), row.length = nm.length + 1 → (p.foldl (dpS nm) row).length = nm.length + 1
  | [], row, h => h
  | b :: p, row, _ => dp_len nm p _ (dpS_len nm row b)
def part {α : Type} (N : Nat) (f : Nat → α) (d : α) (m : Nat) : List α := (List.range N).map fun k => if k < m then f k else d
theorem part_set {α : Type} {N : Nat} {f : Nat → α} {d : α} {m : Nat} (h : m < N) : (part N f d m).set m (f m) = part N f d (m + 1) := by
  apply List.ext_getElem?
  intro i
  unfold part
  by_cases q : m = i
  · subst q
    rw [List.getElem?_set_self (by simpa using h), List.getElem?_map, List.getElem?_range h]
    simp
  · rw [List.getElem?_set_ne q, List.getElem?_map, List.getElem?_map]
    by_cases hi : i < N
    · rw [List.getElem?_range hi]
      have : (i < m) ↔ i < m + 1 := by omega
      simp [this]
    · rw [List.getElem?_eq_none (by simpa using hi)]
      rfl
theorem part_zero {α : Type} (N : Nat) (f : Nat → α) (d : α) : part N f d 0 = List.replicate N d := by
  apply List.ext_getElem?
  intro i
  unfold part
  rw [List.getElem?_map]
  by_cases hi : i < N
  · rw [List.getElem?_range hi]
    simp [hi]
  · rw [List.getElem?_eq_none (by simpa using hi), List.getElem?_eq_none (by simpa using hi)]
    rfl
theorem part_all {α : Type} (N : Nat) (f : Nat → α) (d : α) : part N f d N = (List.range N).map f := by
  unfold part
  refine List.map_congr_left fun k hk => ?_
  rw [if_pos (by simpa using hk)]
theorem part_len {α : Type} (N : Nat) (f : Nat → α) (d : α) (m : Nat) : (part N f d m).length = N := by simp [part]
theorem ixN_nn {n k : Nat} (h : k < n) : ixN n (k : Int) = some k := by
  obtain ⟨j, h1, h2⟩ := ixN_some (xs := List.range n) (i := (k : Int)) (d := k) (atI_nn (List.getElem?_range h))
  rw [List.length_range] at h1
  have hj := (List.getElem?_eq_some_iff.mp h2).1
  rw [List.length_range] at hj
  rw [List.getElem?_range hj] at h2
  rw [h1, Option.some.inj h2]
theorem rep_flat {α : Type} (n : Nat) (d : α) : (List.replicate n [d]).flatten = List.replicate n d := by
  induction n with
  | zero => rfl
  | succ n ih => rw [List.replicate_succ, List.flatten_cons, ih, List.replicate_succ]; rfl
theorem pre_step {row : List Bool} {k : Nat} {v : Bool} (h : row[k]? = some v) : (row.take (k + 1)).any id = ((row.take k).any id || v) := by
  rw [take_snoc h, List.any_append]
  simp
def bD (l : List Bool) : List PyData := l.map .bool
section
variable {P : Program} {w : World} {K : PySem.W.Frag} {mg : Str → Option Value} {base : Heap}
def d_law_match : List PyData → PyData → Prop := fun ds r => ∃ p nm : Bts, p.length ≤ 1000 ∧ nm.length ≤ 1000 ∧ ds = [dNs p, dNs nm] ∧ r = .bool (lawMt p nm)
theorem w_law_match {f : Addr} {fd : FuncData} (Fn : FnP K "_law_match" s_law_match f fd) (hm : mg "_law_match" = some (.ref f)) (bn : BN mg) : FnF P w K mg base "_law_match" 1 d_law_match := by
  refine fn_mk Fn hm c_law_match (fun ds r ⟨_, _, _, _, h, _⟩ => by rw [h]; rfl) (fun _ _ _ _ _ _ us hl => match us, hl with | [_, _], _ => rfl) fun X F xd ds r ⟨p, nm', hp, hnm, h, hr⟩ => ?_
  subst h hr
  have eR : (List.replicate ((nm'.length : Int) + 1).toNat [PyData.bool false]).flatten = bD (List.replicate (nm'.length + 1) false) := by
    rw [rep_flat, show ((nm'.length : Int) + 1).toNat = nm'.length + 1 by omega]
    simp [bD]
  refine setF F xd 2 (ds := bD (List.replicate (nm'.length + 1) false)) (eR ▸ ef_rep (n := (nm'.length : Int) + 1) (li1 e_bool) (e_add (e_cast (e_lenT F bn (ds := nm'.map dN) (nm F 1) rfl) (by simp)) e_int) (by omega) (by omega) (by simp; omega)) ?_
  refine setIx F 2 (ds := bD (List.replicate (nm'.length + 1) false)) (j := 0) e_bool e_int (ixN_nn (k := 0) (by simp [bD])) ?_
  refine ss_freeze (i := 2) rfl ?_
  have h0 : (bD (List.replicate (nm'.length + 1) false)).set 0 (.bool true) = bD (row0 nm'.length) := by simp [bD, row0, List.replicate_succ]
  rw [h0]
  refine forN F xd 3 p dN (src_tup (nm F 0)) (fun n Γ' => ∃ s3 s4 s5 s6, Γ' = [.dat (dNs p), .dat (dNs nm'), .dat (.list (bD ((p.take n).foldl (dpS nm') (row0 nm'.length)))), s3, s4, s5, s6]) ⟨.un, .un, .un, .un, rfl⟩ ?_ ?_
  · rintro n b Γ' hb ⟨s3, s4, s5, s6, rfl⟩
    rw [take_fold (dpS nm') _ hb]
    have hrl := dp_len nm' (p.take n) (row0 nm'.length) (by simp [row0])
    generalize (p.take n).foldl (dpS nm') (row0 nm'.length) = row at hrl ⊢
    refine setF F xd 4 (ds := bD (List.replicate (nm'.length + 1) false)) (eR ▸ ef_rep (n := (nm'.length : Int) + 1) (li1 e_bool) (e_add (e_cast (e_lenT F bn (ds := nm'.map dN) (nm F 1) rfl) (by simp)) e_int) (by omega) (by omega) (by simp; omega)) ?_
    refine if_ (t_eq (nm F 3) e_int (.int _ _)) (fun h => ?_) (fun h => ?_)
    · have hb42 : b = 42 := by have := of_decide_eq_true h; omega
      have hd : dpS nm' row b = part (nm'.length + 1) (preO row) false (nm'.length + 1) := by
        unfold dpS
        rw [if_pos hb42, part_all]
      rw [hd, ← part_zero (nm'.length + 1) (preO row) false]
      refine set_ F xd 5 (d := .bool ((row.take 0).any id)) e_bool ?_
      refine forN F xd 6 (List.range (nm'.length + 1)) (fun (i : Nat) => .int (0 + (i : Int))) ?_ (fun m Γ' => ∃ s6, Γ' = [.dat (dNs p), .dat (dNs nm'), .dat (.list (bD row)), .dat (dN b), .ob (oL X.K (bD (part (nm'.length + 1) (preO row) false m))), .dat (.bool ((row.take m).any id)), s6]) ⟨_, rfl⟩ ?_ ?_
      · exact src_rng1 F bn (n := ((nm'.length + 1 : Nat) : Int)) (e_cast (e_add (e_lenT F bn (ds := nm'.map dN) (nm F 1) rfl) e_int) (by simp)) (by omega) (by omega) rfl
      · rintro m i Γ' hi ⟨s6, rfl⟩
        obtain ⟨hm, rfl⟩ := range_snoc hi
        have hg : row[i]? = some row[i] := List.getElem?_eq_getElem (by omega)
        refine set_ F xd 5 (d := .bool ((row.take (i + 1)).any id)) ((pre_step hg).symm ▸ e_or2 (nm F 5) fun _ => e_ixL (ds := bD row) (d := .bool row[i]) (nm F 2) (nm F 6) (by rw [show (0 + (i : Int)) = (i : Nat) by omega]; exact atI_nn (by simp [bD, hg]))) ?_
        refine setIx F 4 (ds := bD (part (nm'.length + 1) (preO row) false i)) (j := i) (nm F 5) (nm F 6) (by rw [show (0 + (i : Int)) = (i : Nat) by omega]; exact ixN_nn (by simp [bD, part_len]; omega)) (ss_nil ⟨.dat (.int (0 + (i : Int))), ?_⟩)
        have : (bD (part (nm'.length + 1) (preO row) false i)).set i (.bool ((row.take (i + 1)).any id)) = bD (part (nm'.length + 1) (preO row) false (i + 1)) := by
          rw [← part_set hm]
          simp [bD, preO]
        rw [← this]
        rfl
      · rintro Γ' ⟨s6, rfl⟩
        rw [List.length_range]
        refine ss_nil (ss_freeze (i := 4) rfl ?_)
        exact set_ F xd 2 (nm F 4) (ss_nil ⟨_, _, _, _, rfl⟩)
    · have hb42 : ¬ b = 42 := by have := of_decide_eq_false h; omega
      have hd : dpS nm' row b = part (nm'.length + 1) (stpO row nm' b) false (nm'.length + 1) := by
        unfold dpS
        rw [if_neg hb42, part_all]
      have hz : List.replicate (nm'.length + 1) false = part (nm'.length + 1) (stpO row nm' b) false 1 := by
        rw [← part_set (by omega), part_zero]
        simp [stpO, List.replicate_succ]
      rw [hd, hz]
      refine forN F xd 6 (List.range nm'.length) (fun (i : Nat) => .int (0 + (i : Int))) ?_ (fun m Γ' => ∃ s5 s6, Γ' = [.dat (dNs p), .dat (dNs nm'), .dat (.list (bD row)), .dat (dN b), .ob (oL X.K (bD (part (nm'.length + 1) (stpO row nm' b) false (m + 1)))), s5, s6]) ⟨_, _, rfl⟩ ?_ ?_
      · exact src_rng1 F bn (n := ((nm'.length : Nat) : Int)) (e_cast (e_lenT F bn (ds := nm'.map dN) (nm F 1) rfl) (by simp)) (by omega) (by omega) rfl
      · rintro m i Γ' hi ⟨s5, s6, rfl⟩
        obtain ⟨hm, rfl⟩ := range_snoc hi
        have hg : row[i]? = some row[i] := List.getElem?_eq_getElem (by omega)
        have hn : nm'[i]? = some nm'[i] := List.getElem?_eq_getElem hm
        have ev : stpO row nm' b (i + 1) = (row[i] && decide ((nm'[i] : Int) = (b : Int))) := by
          have : decide ((nm'[i] : Int) = (b : Int)) = decide (nm'[i] = b) := decide_eq_decide.mpr (by omega)
          simp [stpO, List.getD_eq_getElem?_getD, hg, hn, this]
        refine setIx F 4 (ds := bD (part (nm'.length + 1) (stpO row nm' b) false (i + 1))) (j := i + 1) (d := .bool (stpO row nm' b (i + 1))) (n := ((i + 1 : Nat) : Int)) (ev ▸ e_and2 (e_ixL (ds := bD row) (d := .bool row[i]) (nm F 2) (nm F 6) (by rw [show (0 + (i : Int)) = (i : Nat) by omega]; exact atI_nn (by simp [bD, hg]))) fun _ => e_eq (e_ixT (ds := nm'.map dN) (d := dN nm'[i]) (nm F 1) (nm F 6) (by rw [show (0 + (i : Int)) = (i : Nat) by omega]; exact atI_nn (by simp [hn]))) (nm F 3) (.int _ _)) (e_cast (x := .int (0 + (i : Int) + 1)) (e_add (nm F 6) e_int) (congrArg PyData.int (by omega))) (ixN_nn (by rw [show (bD (part (nm'.length + 1) (stpO row nm' b) false (i + 1))).length = nm'.length + 1 by simp [bD, part_len]]; omega)) (ss_nil ⟨s5, .dat (.int (0 + (i : Int))), ?_⟩)
        have : (bD (part (nm'.length + 1) (stpO row nm' b) false (i + 1))).set (i + 1) (.bool (stpO row nm' b (i + 1))) = bD (part (nm'.length + 1) (stpO row nm' b) false (i + 1 + 1)) := by
          rw [← part_set (m := i + 1) (by omega)]
          simp [bD]
        rw [← this]
        rfl
      · rintro Γ' ⟨s5, s6, rfl⟩
        rw [List.length_range]
        refine ss_nil (ss_freeze (i := 4) rfl ?_)
        exact set_ F xd 2 (nm F 4) (ss_nil ⟨_, _, _, _, rfl⟩)
  · rintro Γ' ⟨s3, s4, s5, s6, rfl⟩
    have hrl := dp_len nm' p (row0 nm'.length) (by simp [row0])
    rw [List.take_length]
    unfold lawMt
    generalize p.foldl (dpS nm') (row0 nm'.length) = row at hrl ⊢
    have hg : row[nm'.length]? = some row[nm'.length] := List.getElem?_eq_getElem (by omega)
    refine ret (e_ixL (ds := bD row) (d := .bool row[nm'.length]) (nm F 2) (e_cast (e_lenT F bn (ds := nm'.map dN) (nm F 1) rfl) (y := .int (nm'.length : Nat)) (by simp)) (atI_nn (by simp [bD, hg]))) ?_
    simp [List.getD_eq_getElem?_getD, hg]
/-! ### _law_stands, _law_holds, _law_judged -/
def d_law_stands : List PyData → PyData → Prop := fun ds r => ∃ (a : Int) (s : Sg) (b : Int), ds = [.int a, .str s.str, .int b] ∧ r = .bool (stM a s b)
theorem w_law_stands {f : Addr} {fd : FuncData} (Fn : FnP K "_law_stands" s_law_stands f fd) (hm : mg "_law_stands" = some (.ref f)) : FnF P w K mg base "_law_stands" 1 d_law_stands := by
  refine fn_mk Fn hm c_law_stands (fun ds r ⟨_, _, _, h, _⟩ => by rw [h]; rfl) (fun _ _ _ _ _ _ us hl => match us, hl with | [_, _, _], _ => rfl) fun X F xd ds r ⟨a, s, b, h, hr⟩ => ?_
  subst h hr
  refine when_ (t_eq (nm F 1) e_str (.str _ _)) (fun h => ret (e_lt (nm F 0) (nm F 2)) ?_) (fun h1 => ?_)
  · cases s <;> first | rfl | (exfalso; revert h; decide +kernel)
  refine when_ (t_eq (nm F 1) e_str (.str _ _)) (fun h => ret (e_le (nm F 0) (nm F 2)) ?_) (fun h2 => ?_)
  · cases s <;> first | (exfalso; revert h; decide +kernel) | skip
    show PyData.bool _ = PyData.bool _
    congr 1
    simp only [stM]
    rw [← Bool.decide_or]
    exact decide_eq_decide.mpr (by omega)
  refine when_ (t_eq (nm F 1) e_str (.str _ _)) (fun h => ret (e_eq (nm F 0) (nm F 2) (.int _ _)) ?_) (fun h3 => ?_)
  · cases s <;> first | rfl | (exfalso; revert h; decide +kernel)
  refine when_ (t_eq (nm F 1) e_str (.str _ _)) (fun h => ret (e_ge (nm F 0) (nm F 2)) ?_) (fun h4 => ret (e_gt (nm F 0) (nm F 2)) ?_)
  · cases s <;> first | (exfalso; revert h; decide +kernel) | skip
    show PyData.bool _ = PyData.bool _
    congr 1
    simp only [stM]
    rw [← Bool.decide_or]
    exact decide_eq_decide.mpr (by omega)
  · cases s
    · exfalso; revert h1; decide +kernel
    · exfalso; revert h2; decide +kernel
    · exfalso; revert h3; decide +kernel
    · exfalso; revert h4; decide +kernel
    · rfl
end
def hbL (b : Bd) (f : Fx) : Bool := match b with
  | .nam p => lawMt p f.name
  | _ => hb b f
def hL (t : Tm) (f : Fx) : Bool := hbL t.body f != t.neg
/-- the four numbers -/
def kv4 (a b c d : Int) : List (Key × V) := [(Sum.inr "size", V.int a), (Sum.inr "pages", V.int b), (Sum.inr "acts", V.int c), (Sum.inr "depth", V.int d)]
def o4 (a b c d : Int) : Ob := ⟨fun _ _ o => o = .dK (mergeK [] (kv4 a b c d)), fun _ _ _ _ _ h => h⟩
theorem skey_ne {a b : Str} (h : ¬ a = b) : ¬ (Sum.inr a : Key) = Sum.inr b := fun e => h (Sum.inr.inj e)
def num4 (g : NF) (a b c d : Int) : Int := match g with | .size => a | .pages => b | .acts => c | .depth => d
theorem val4 (g : NF) (a b c d : Int) : valV (mergeK [] (kv4 a b c d)) (Sum.inr g.str) = some (.int (num4 g a b c d)) := by
  unfold mergeK kv4
  simp only [List.foldl_cons, List.foldl_nil]
  rw [valV_put, valV_put, valV_put, valV_put]
  have n1 := skey_ne (a := "size") (b := "depth") (by decide +kernel)
  have n2 := skey_ne (a := "size") (b := "acts") (by decide +kernel)
  have n3 := skey_ne (a := "size") (b := "pages") (by decide +kernel)
  have n4 := skey_ne (a := "pages") (b := "depth") (by decide +kernel)
  have n5 := skey_ne (a := "pages") (b := "acts") (by decide +kernel)
  have n6 := skey_ne (a := "acts") (b := "depth") (by decide +kernel)
  cases g
  · show (if (Sum.inr ("size" : Str) : Key) = _ then _ else if (Sum.inr ("size" : Str) : Key) = _ then _ else if (Sum.inr ("size" : Str) : Key) = _ then _ else if (Sum.inr ("size" : Str) : Key) = _ then _ else _) = _
    rw [if_neg n1, if_neg n2, if_neg n3, if_pos rfl]
    rfl
  · show (if (Sum.inr ("pages" : Str) : Key) = _ then _ else if (Sum.inr ("pages" : Str) : Key) = _ then _ else if (Sum.inr ("pages" : Str) : Key) = _ then _ else _) = _
    rw [if_neg n4, if_neg n5, if_pos rfl]
    rfl
  · show (if (Sum.inr ("acts" : Str) : Key) = _ then _ else if (Sum.inr ("acts" : Str) : Key) = _ then _ else _) = _
    rw [if_neg n6, if_pos rfl]
    rfl
  · show (if (Sum.inr ("depth" : Str) : Key) = _ then _ else _) = _
    rw [if_pos rfl]
    rfl
section
variable {X : Cx} {P : Program} {w : World} {K : PySem.W.Frag} {mg : Str → Option Value} {base : Heap} {N : List Str} {sc : Scope} {k : Nat}
variable {Γ : List Sl} {e e1 e2 e3 e4 : Expr} {pos p px : Pos} {κ : Kt} {rest : List Stmt} {a b c d : Int}
theorem set4 (F : XF X P w K mg base N sc k) (xd : XD X) (i : Nat) {x : Str} {j1 j2 j3 j4} {p1 p2 p3 p4 : Pos} (h1 : E X Γ e1 (.int a)) (h2 : E X Γ e2 (.int b)) (h3 : E X Γ e3 (.int c)) (h4 : E X Γ e4 (.int d)) (h : Ss X (Γ.set i (.ob (o4 a b c d))) rest κ) (hN : N[i]? = some x := by rfl) (hl : locB sc x = true := by rfl)
    (hsw : swapsWith (.Dict [some (.Constant (.str "size") j1 p1), some (.Constant (.str "pages") j2 p2), some (.Constant (.str "acts") j3 p3), some (.Constant (.str "depth") j4 p4)] [e1, e2, e3, e4] px) (some (.Name x p)) pos.line X.env = pure false := by rfl) :
    Ss X Γ (.Assign [.Name x p] (.Dict [some (.Constant (.str "size") j1 p1), some (.Constant (.str "pages") j2 p2), some (.Constant (.str "acts") j3 p3), some (.Constant (.str "depth") j4 p4)] [e1, e2, e3, e4] px) pos :: rest) κ := ss_cons fun G0 H0 D M σ G H hA pins s I =>
  (ps_set (i := i) (by rw [F.hN]; exact F.nd) (by rw [F.hN]; exact hN) (by rw [F.hsc]; exact loc_of hl) (pe_disp (pps_cons pe_str peS (pps_cons pe_str peS (pps_cons pe_str peS (pps_cons pe_str peS pps_nil)))) rfl rfl (by simp) (by simp)) hsw (.inl (xd.fn x))).run pins s σ H D I fun q hq => by
    have g0 : Gr G H G (upd H q (.dK [])) := Gr.more hA.gr.gh (Ex.new hq)
    have gq : G q = none := fresh_back hA.gr.gh hq
    have hA0 := hA.grow g0
    refine h1 G0 H0 σ G _ hA0 _ fun v1 G1 H1 g1 d1 => ?_
    cases d1
    refine h2 G0 H0 σ G1 H1 (hA0.grow g1) _ fun v2 G2 H2 g2 d2 => ?_
    cases d2
    refine h3 G0 H0 σ G2 H2 ((hA0.grow g1).grow g2) _ fun v3 G3 H3 g3 d3 => ?_
    cases d3
    refine h4 G0 H0 σ G3 H3 (((hA0.grow g1).grow g2).grow g3) _ fun v4 G4 H4 g4 d4 => ?_
    cases d4
    have g12 := ((g1.trans g2).trans g3).trans g4
    have q2 : H4 q = some (.dK []) := g12.hh _ _ upd_same
    have gq2 : G4 q = none := g12.fr q _ upd_same gq
    exact ⟨q2, kv4 a b c d, rfl, by simp [kv4], M.nx _ h _ G4 _ (hA.own (gr_mut (g0.trans g12) hq gq2) hq gq2 upd_same rfl)⟩
theorem e_get4 (F : XF X P w K mg base N sc k) (i : Nat) {x : Str} {g : NF} (he : E X Γ e (.str g.str)) (hi : Γ[i]? = some (.ob (o4 a b c d)) := by rfl) (hN : N[i]? = some x := by rfl) (hv : visB sc x = true := by rfl)
    (hs : NoSl e := by exact fun _ _ => rfl) (hd : (x == ("__debug__" : Str)) = false := by decide) (hcd : (x == ("__classdict__" : Str)) = false := by decide) : E X Γ (.Subscript (.Name x p) e pos) (.int (num4 g a b c d)) :=
  e_of (pe_dget (by have := F.hu; omega) (pe_var (i := i) (by rw [F.hN]; exact hN) (by rw [F.hsc]; exact vis_of hv) hd hcd) peS hs) fun G0 H0 σ G H hA Q hQ => by
    obtain ⟨l, u, e1, h0, hg, hh, p1⟩ := hA.sl i _ hi
    have p2 : u = .dK (mergeK [] (kv4 a b c d)) := p1
    subst p2
    refine ⟨_, e1, he G0 H0 σ G H hA _ fun v1 G1 H1 g1 d1 => ?_⟩
    cases d1
    have := DGet.k (a := l) (k := Sum.inr g.str) (g1.hh _ _ hh)
    rw [val4] at this
    exact ⟨l, _, rfl, this, hQ _ G1 H1 g1 (.int _)⟩
end
end Z
set_option Elab.async false
set_option linter.all false
set_option maxRecDepth 100000
set_option maxHeartbeats 4000000
namespace Z
open PySem PySem.Spec PyProof.Rows L2 Evl
def vdAt (i : Int) : Vd := [Vd.clean, .hold, .drop].getD i.toNat .clean
def ntk (c : Int) (k : Nat) : Nat := (c / 5 / (1 + 3 * (k : Int)) % 3).toNat
def usedAt (c : Int) (at_ : Nat) : Nat → Nat
  | 0 => at_ + 1
  | k + 1 => usedAt c at_ k + ntk c k
def ruleM (ns : List Int) (c : Int) (at_ k : Nat) : Rl := ⟨vdAt (c / 11 / (1 + (k : Int)) % 3), (List.range (ntk c k)).map fun j => termM (absI (cellM ns (usedAt c at_ k + j)))⟩
def polC (ns : List Int) (c : Int) (at_ : Nat) : List Rl := (List.range (c % 3).toNat).map (ruleM ns c at_)
def polM (ns : List Int) (at_ : Nat) : List Rl := polC ns (absI (cellM ns at_)) at_
def jdM (p : List Rl) (f : Fx) : PyData := match (List.range p.length).find? fun k => ((p[k]?.map (·.ts)).getD []).all fun t => hL t f with
  | some k => .tuple [.str (((p[k]?.map Rl.v).getD Vd.hold).str), .int (k : Nat)]
  | none => .tuple [.str "hold", .int (-1)]
section
variable {P : Program} {w : World} {K : PySem.W.Frag} {mg : Str → Option Value} {base : Heap}
structure fOk (f : Fx) : Prop where
  nm : f.name.length ≤ 1000
def tOk (t : Tm) : Prop := ∀ p, t.body = .nam p → p.length ≤ 1000
def d_law_holds : List PyData → PyData → Prop := fun ds r => ∃ (t : Tm) (f : Fx), tOk t ∧ fOk f ∧ ds = [dT t, dF f] ∧ r = .bool (hL t f)
theorem w_law_holds {f : Addr} {fd : FuncData} (Fn : FnP K "_law_holds" s_law_holds f fd) (hm : mg "_law_holds" = some (.ref f)) (bn : BN mg) (f1 : FnF P w K mg base "_law_match" 1 d_law_match) (f2 : FnF P w K mg base "_law_stands" 1 d_law_stands) : FnF P w K mg base "_law_holds" 2 d_law_holds := by
  refine fn_mk Fn hm c_law_holds (fun ds r ⟨p, pl, _, _, h, _⟩ => by rw [h]; rfl) (fun _ _ _ _ _ _ us hl => match us, hl with | [_, _], _ => rfl) fun X F xd ds r ⟨t, f, wf, fk, h, hr⟩ => ?_
  subst h hr
  refine set2 F xd 2 3 (d1 := .bool t.neg) (d2 := dB t.body) (nm F 0) ?_
  obtain ⟨ng, b⟩ := t
  have ef : ∀ {pos s s'}, E X [.dat (dT ⟨ng, b⟩), .dat (dF f), .dat (.bool ng), .dat (dB b), s, s'] (.Name "_law_facts" pos) (.tuple [dNs f.name, .int f.size, .str f.kind.str, dKs f.kinds, .int f.pages, dAs f.acts, .int f.depth]) := fun {pos s s'} => nm F 1
  obtain ⟨x, rest, hb'⟩ : ∃ x rest, dB b = .tuple (.str b.word :: x :: rest) := by cases b <;> exact ⟨_, _, rfl⟩
  have eb : ∀ {pos s s'}, E X [.dat (dT ⟨ng, b⟩), .dat (dF f), .dat (.bool ng), .dat (dB b), s, s'] (.Name "_law_body_here" pos) (.tuple (.str b.word :: x :: rest)) := fun {pos s s'} => hb' ▸ nm F 3
  have e1 : ∀ {pos pos' pos'' j s s'}, E X [.dat (dT ⟨ng, b⟩), .dat (dF f), .dat (.bool ng), .dat (dB b), s, s'] (.Subscript (.Name "_law_body_here" pos) (.Constant (.int 0) j pos') pos'') (.str b.word) := fun {_ _ _ _ _ _} => e_ixT eb e_int at0
  cases b with
  | num g s n =>
    have eb' : ∀ {pos s' s''}, E X [.dat (dT ⟨ng, .num g s n⟩), .dat (dF f), .dat (.bool ng), .dat (dB (.num g s n)), s', s''] (.Name "_law_body_here" pos) (.tuple [.str g.str, .str s.str, .int n]) := fun {_ _ _} => nm F 3
    refine if_ (v := false) (t_cast (t_eq e1 e_str (.str _ _)) (decide_eq_false (by show ¬ g.str = "is"; cases g <;> decide +kernel))) (fun h => by cases h) (fun _ => ?_)
    refine if_ (v := false) (t_cast (t_eq e1 e_str (.str _ _)) (decide_eq_false (by show ¬ g.str = "could"; cases g <;> decide +kernel))) (fun h => by cases h) (fun _ => ?_)
    refine if_ (v := false) (t_cast (t_eq e1 e_str (.str _ _)) (decide_eq_false (by show ¬ g.str = "act"; cases g <;> decide +kernel))) (fun h => by cases h) (fun _ => ?_)
    refine if_ (v := false) (t_cast (t_eq e1 e_str (.str _ _)) (decide_eq_false (by show ¬ g.str = "name"; cases g <;> decide +kernel))) (fun h => by cases h) (fun _ => ?_)
    refine set4 F xd 5 (a := f.size) (b := f.pages) (c := f.acts.length) (d := f.depth) (e_ixT ef e_int rfl) (e_ixT ef e_int rfl) (e_cast (e_lenT F bn (ds := f.acts.map fun k => .str k.str) (e_ixT ef e_int rfl) rfl) (by simp)) (e_ixT ef e_int rfl) ?_
    refine set_ F xd 4 (ca3 F f2 (e_get4 F 5 (g := g) e1) (e_ixT eb' e_int rfl) (e_ixT eb' e_int rfl) ⟨_, _, _, rfl, rfl⟩) (ss_nil (ss_nil (ss_nil (ss_nil (ret (e_ne (nm F 4) (nm F 2) (.bool _ _)) ?_)))))
    rw [bne_dec]
    cases g <;> rfl
  | isk kk =>
    have eb' : ∀ {pos s' s''}, E X [.dat (dT ⟨ng, .isk kk⟩), .dat (dF f), .dat (.bool ng), .dat (dB (.isk kk)), s', s''] (.Name "_law_body_here" pos) (.tuple [.str "is", .str kk.str]) := fun {_ _ _} => nm F 3
    refine if_ (t_eq e1 e_str (.str _ _)) (fun _ => ?_) (fun h => by simp [Bd.word] at h)
    refine set_ F xd 4 (e_eq (e_ixT ef e_int rfl) (e_ixT eb' e_int rfl) (.str _ _)) (ss_nil (ret (e_ne (nm F 4) (nm F 2) (.bool _ _)) ?_))
    rw [bne_dec, kd_dec]
    rfl
  | could kk =>
    have eb' : ∀ {pos s' s''}, E X [.dat (dT ⟨ng, .could kk⟩), .dat (dF f), .dat (.bool ng), .dat (dB (.could kk)), s', s''] (.Name "_law_body_here" pos) (.tuple [.str "could", .str kk.str]) := fun {_ _ _} => nm F 3
    refine if_ (t_eq e1 e_str (.str _ _)) (fun h => absurd (of_decide_eq_true h) (by show ¬ ("could" : Str) = "is"; decide +kernel)) (fun _ => ?_)
    refine if_ (t_eq e1 e_str (.str _ _)) (fun _ => ?_) (fun h => by simp [Bd.word] at h)
    rw [dKs_eq] at ef
    refine set_ F xd 4 (e_in (e_ixT eb' e_int rfl) (e_ixT ef e_int rfl) rfl rfl (flat_strs' _)) (ss_nil (ss_nil (ret (e_ne (nm F 4) (nm F 2) (.bool _ _)) ?_)))
    rw [bne_dec, inV_strs, kd_in]
    rfl
  | act a =>
    have eb' : ∀ {pos s' s''}, E X [.dat (dT ⟨ng, .act a⟩), .dat (dF f), .dat (.bool ng), .dat (dB (.act a)), s', s''] (.Name "_law_body_here" pos) (.tuple [.str "act", .str a.str]) := fun {_ _ _} => nm F 3
    refine if_ (t_eq e1 e_str (.str _ _)) (fun h => absurd (of_decide_eq_true h) (by show ¬ ("act" : Str) = "is"; decide +kernel)) (fun _ => ?_)
    refine if_ (t_eq e1 e_str (.str _ _)) (fun h => absurd (of_decide_eq_true h) (by show ¬ ("act" : Str) = "could"; decide +kernel)) (fun _ => ?_)
    refine if_ (t_eq e1 e_str (.str _ _)) (fun _ => ?_) (fun h => by simp [Bd.word] at h)
    rw [dAs_eq] at ef
    refine set_ F xd 4 (e_in (e_ixT eb' e_int rfl) (e_ixT ef e_int rfl) rfl rfl (flat_strs' _)) (ss_nil (ss_nil (ss_nil (ret (e_ne (nm F 4) (nm F 2) (.bool _ _)) ?_))))
    rw [bne_dec, inV_strs, ac_in]
    rfl
  | nam p =>
    have eb' : ∀ {pos s' s''}, E X [.dat (dT ⟨ng, .nam p⟩), .dat (dF f), .dat (.bool ng), .dat (dB (.nam p)), s', s''] (.Name "_law_body_here" pos) (.tuple [.str "name", dNs p]) := fun {_ _ _} => nm F 3
    refine if_ (t_eq e1 e_str (.str _ _)) (fun h => absurd (of_decide_eq_true h) (by show ¬ ("name" : Str) = "is"; decide +kernel)) (fun _ => ?_)
    refine if_ (t_eq e1 e_str (.str _ _)) (fun h => absurd (of_decide_eq_true h) (by show ¬ ("name" : Str) = "could"; decide +kernel)) (fun _ => ?_)
    refine if_ (t_eq e1 e_str (.str _ _)) (fun h => absurd (of_decide_eq_true h) (by show ¬ ("name" : Str) = "act"; decide +kernel)) (fun _ => ?_)
    refine if_ (t_eq e1 e_str (.str _ _)) (fun _ => ?_) (fun h => by simp [Bd.word] at h)
    refine set_ F xd 4 (ca2 F f1 (e_ixT eb' e_int rfl) (e_ixT ef e_int rfl) ⟨p, f.name, wf p rfl, fk.nm, rfl, rfl⟩) (ss_nil (ss_nil (ss_nil (ss_nil (ret (e_ne (nm F 4) (nm F 2) (.bool _ _)) ?_)))))
    rw [bne_dec]
    rfl
def d_law_judged : List PyData → PyData → Prop := fun ds r => ∃ (p : List Rl) (f : Fx), small p ∧ (∀ r ∈ p, ∀ t ∈ r.ts, tOk t) ∧ fOk f ∧ ds = [dP p, dF f] ∧ r = jdM p f
theorem w_law_judged {f : Addr} {fd : FuncData} (Fn : FnP K "_law_judged" s_law_judged f fd) (hm : mg "_law_judged" = some (.ref f)) (bn : BN mg) (f1 : FnF P w K mg base "_law_holds" 2 d_law_holds) : FnF P w K mg base "_law_judged" 3 d_law_judged := by
  refine fn_mk Fn hm c_law_judged (fun ds r ⟨_, _, _, _, _, h, _⟩ => by rw [h]; rfl) (fun _ _ _ _ _ _ us hl => match us, hl with | [_, _], _ => rfl) fun X F xd ds r ⟨p, f, sm, tk, fk, h, hr⟩ => ?_
  subst h hr
  have hr4 := sm.r
  refine forN F xd 2 (List.range p.length) (fun (i : Nat) => .int (0 + (i : Int))) (src_rng1 F bn (n := (p.length : Nat)) (e_cast (e_lenT F bn (ds := p.map dR) (nm F 0) rfl) (by simp)) (by omega) (by omega) rfl) (fun n Γ' => (∀ k ∈ (List.range p.length).take n, (((p[k]?.map (·.ts)).getD []).all fun t => hL t f) = false) ∧ ∃ s2 s3, Γ' = [.dat (dP p), .dat (dF f), s2, s3]) ⟨by simp, .un, .un, rfl⟩ ?_ ?_
  · rintro n i Γ' hi ⟨hall, s2, s3, rfl⟩
    have hi0 := hi
    obtain ⟨hm, rfl⟩ := range_snoc hi
    have hg : p[i]? = some p[i] := List.getElem?_eq_getElem hm
    have hmem : p[i] ∈ p := List.getElem_mem hm
    have er : ∀ {Y : Cx} (FY : XF Y P w K mg base n_law_judged (defScope s_law_judged) 2) {pos p2 p3 s3}, E Y [.dat (dP p), .dat (dF f), .dat (.int (0 + (i : Int))), s3] (.Subscript (.Name "_law_policy_here" pos) (.Name "_law_k" p2) p3) (.tuple [.str p[i].v.str, .tuple (p[i].ts.map dT)]) := fun {Y} FY {_ _ _ _} => e_ixT (ds := p.map dR) (nm FY 0) (nm FY 2) (by rw [show (0 + (i : Int)) = (i : Nat) by omega]; exact atI_nn (by rw [List.getElem?_map, hg]; rfl))
    have hq : ((p[i]?.map (·.ts)).getD []) = p[i].ts := by rw [hg]; rfl
    have hnil : ((p[i].ts.filter fun t => !hL t f).length = 0) ↔ (p[i].ts.all fun t => hL t f) = true := by
      rw [List.length_eq_zero_iff, List.filter_eq_nil_iff, List.all_eq_true]
      exact forall_congr' fun t => forall_congr' fun _ => by cases hL t f <;> simp
    refine when_ (v := p[i].ts.all fun t => hL t f) (t_cast (t_eq (e_lenL F bn (lcN F 3 p[i].ts dT (src_tup (e_ixT (er F) e_int rfl)) (fun t => !hL t f) dT (fun Y FY t ht => .one (t_not (t_val (ca2 FY f1 (nm FY 3) (nm FY 1) ⟨t, f, tk _ hmem t ht, fk, rfl, rfl⟩)))) (fun Y FY t ht _ => nm FY 3) (by have := sm.t _ hmem; omega)) rfl) e_int (.int _ _)) ?_) (fun h => ret (tu2 (e_ixT (er F) e_int rfl) (nm F 2)) ?_) (fun h => ss_nil ⟨find_step (q := fun k => ((p[k]?.map (·.ts)).getD []).all fun t => hL t f) hi0 hall (by rw [hq]; exact h), _, _, rfl⟩)
    · rw [List.length_map]
      cases hA : p[i].ts.all fun t => hL t f with
      | true => exact decide_eq_true (by have := hnil.mpr hA; omega)
      | false => exact decide_eq_false fun e => by have := hnil.mp (by omega); rw [hA] at this; cases this
    · unfold jdM
      rw [find_at hi0 hall (by rw [hq]; exact h)]
      try simp [hg, show (0 + (i : Int)) = (i : Nat) by omega]
  · rintro Γ' ⟨hall, s2, s3, rfl⟩
    refine ret (tu2 e_str (e_neg e_int)) ?_
    unfold jdM
    rw [find_no hall]
theorem usedAt_le (c : Int) (at_ : Nat) : ∀ k, usedAt c at_ k ≤ at_ + 1 + 2 * k
  | 0 => by simp [usedAt]
  | k + 1 => by
    have := usedAt_le c at_ k
    have h2 : ntk c k ≤ 2 := by unfold ntk; omega
    simp only [usedAt]
    omega
def d_law_policy : List PyData → PyData → Prop := fun ds r => ∃ (ns : List Int) (at_ : Nat), at_ ≤ 100 ∧ ds = [scrD ns, dN at_, .int 2, .int 2] ∧ r = dP (polM ns at_)
theorem w_law_policy {f : Addr} {fd : FuncData} (Fn : FnP K "_law_policy" s_law_policy f fd) (hm : mg "_law_policy" = some (.ref f)) (bn : BN mg) (f1 : FnF P w K mg base "_law_cell" 1 d_law_cell) (f2 : FnF P w K mg base "_law_term" 4 d_law_term) : FnF P w K mg base "_law_policy" 5 d_law_policy := by
  refine fn_mk Fn hm c_law_policy (fun ds r ⟨_, _, _, h, _⟩ => by rw [h]; rfl) (fun _ _ _ _ _ _ us hl => match us, hl with | [_, _, _, _], _ => rfl) fun X F xd ds r ⟨ns, at_, hat, h, hr⟩ => ?_
  subst h hr
  refine set_ F xd 4 (d := .int (absI (cellM ns at_))) (e_abs F bn (ca2 F f1 (nm F 0) (nm F 1) ⟨ns, at_, rfl, rfl⟩) rfl) ?_
  unfold polM
  generalize absI (cellM ns at_) = c
  refine setF F xd 5 (ef_list as_nil (by decide)) ?_
  refine set_ F xd 6 (d := dN (usedAt c at_ 0)) (e_cast (e_add (nm F 1) e_int) (by show PyData.int _ = PyData.int _; simp [usedAt])) ?_
  have hc3 : (c % (2 + 1)).toNat ≤ 2 := by omega
  refine forN F xd 7 (List.range (c % 3).toNat) (fun (i : Nat) => .int (0 + (i : Int))) (src_rng1 F bn (n := c % 3) (e_cast (x := .int (c % (2 + 1))) (e_mod (e_int1 F bn (nm F 4) rfl) (e_add (nm F 2) e_int) (by decide)) rfl) (by omega) (by omega) rfl) (fun n Γ' => ∃ s7 s8 s9, Γ' = [.dat (scrD ns), .dat (dN at_), .dat (.int 2), .dat (.int 2), .dat (.int c), .ob (oL X.K (((List.range n).map (ruleM ns c at_)).map dR)), .dat (dN (usedAt c at_ n)), s7, s8, s9]) ⟨_, _, _, rfl⟩ ?_ ?_
  · rintro n k Γ' hk ⟨s7, s8, s9, rfl⟩
    obtain ⟨hm, rfl⟩ := range_snoc hk
    have hk2 : k ≤ 1 := by omega
    have hu := usedAt_le c at_ k
    refine setF F xd 8 (ef_list as_nil (by decide)) ?_
    have hnt : ntk c k ≤ 2 := by unfold ntk; omega
    refine forN F xd 9 (List.range (ntk c k)) (fun (i : Nat) => .int (0 + (i : Int))) (src_rng1 F bn (n := c / 5 / (1 + 3 * (0 + (k : Int))) % (2 + 1)) (e_mod (e_int1 F bn (e_div (e_div (nm F 4) e_int (by decide)) (e_add e_int (e_mul e_int (nm F 7) (.inl (by decide)))) (by omega)) rfl) (e_add (nm F 3) e_int) (by decide)) (by omega) (by omega) rfl |> fun h => by
      have e : (c / 5 / (1 + 3 * (0 + (k : Int))) % (2 + 1)).toNat = ntk c k := by unfold ntk; rw [show (0 + (k : Int)) = (k : Int) by omega]; rfl
      unfold rngD at h
      rwa [e] at h) (fun m Γ' => ∃ s9, Γ' = [.dat (scrD ns), .dat (dN at_), .dat (.int 2), .dat (.int 2), .dat (.int c), .ob (oL X.K (((List.range k).map (ruleM ns c at_)).map dR)), .dat (dN (usedAt c at_ k + m)), .dat (.int (0 + (k : Int))), .ob (oL X.K (((List.range m).map fun j => termM (absI (cellM ns (usedAt c at_ k + j)))).map dT)), s9]) ⟨_, rfl⟩ ?_ ?_
    · rintro m j Γ' hj ⟨s9, rfl⟩
      obtain ⟨hm2, rfl⟩ := range_snoc hj
      refine app F 8 (ds := ((List.range j).map fun j => termM (absI (cellM ns (usedAt c at_ k + j)))).map dT) (ca1 F f2 (e_abs F bn (ca2 F f1 (nm F 0) (nm F 6) ⟨ns, usedAt c at_ k + j, rfl, rfl⟩) rfl) ⟨absI (cellM ns (usedAt c at_ k + j)), rfl, rfl⟩) ?_ (by simp; omega)
      refine set_ F xd 6 (d := dN (usedAt c at_ k + (j + 1))) (e_cast (e_add (nm F 6) e_int) (by show PyData.int _ = PyData.int _; congr 1)) (ss_nil ⟨.dat (.int (0 + (j : Int))), ?_⟩)
      rw [List.range_succ, List.map_append, List.map_append]
      rfl
    · rintro Γ' ⟨s9, rfl⟩
      rw [List.length_range]
      refine ss_freeze (i := 8) rfl ?_
      have hd : ((List.range (ntk c k)).map fun j => termM (absI (cellM ns (usedAt c at_ k + j)))).map dT = (ruleM ns c at_ k).ts.map dT := rfl
      have e2 : ((List.range (k + 1)).map (ruleM ns c at_)).map dR = ((List.range k).map (ruleM ns c at_)).map dR ++ [dR (ruleM ns c at_ k)] := by
        rw [List.range_succ, List.map_append, List.map_append]
        rfl
      rw [e2]
      exact app F 5 (ds := ((List.range k).map (ruleM ns c at_)).map dR) (d := dR (ruleM ns c at_ k)) (tu2 (e_ixL (ds := [Vd.clean, .hold, .drop].map fun v => PyData.str v.str) (d := .str (vdAt (c / 11 / (1 + (k : Int)) % 3)).str) (e_list (as_cons e_str (as_cons e_str (as_cons e_str as_nil))) (by decide)) (e_mod (e_int1 F bn (e_div (e_div (nm F 4) e_int (by decide)) (e_add e_int (nm F 7)) (by omega)) rfl) e_int (by decide)) (by rw [show (0 + (k : Int)) = (k : Int) by omega]; exact at_of (by omega) (by show _ < (3 : Int); omega))) (e_tupleL F bn (nm F 8) rfl)) (ss_nil ⟨_, _, _, rfl⟩) (by simp; omega)
  · rintro Γ' ⟨s7, s8, s9, rfl⟩
    rw [List.length_range]
    refine ss_freeze (i := 5) rfl (ret (e_tupleL F bn (nm F 5) rfl) ?_)
    rfl
end
end Z
set_option Elab.async false
set_option linter.all false
set_option maxRecDepth 100000
set_option maxHeartbeats 4000000
namespace Z
open PySem PySem.Spec PyProof.Rows L2 Evl
/-! ### a comprehension's list as one's own -/
section
variable {K : PySem.W.Frag} {G0 H0 G H : Hp} {Γ : List Sl} {σ : L2.St}
theorem evf_lc {α : Type} {wi : TI} {g : TG} {tt : TT} {te : TE} {vs is : List Nat} (xs : List α) (enc : α → PyData) (f : α → Bool) (h : α → PyData) (Γ1 : α → List Sl) (hi : EvI K wi Γ (xs.map enc)) (hz : xs.length ≤ 100000) (hv : ∀ j ∈ is, j ∈ vs)
    (hg : ∀ d ∈ xs, Tgd K g (enc d) (wipeG Γ vs) (Γ1 d) is) (ht : ∀ d ∈ xs, EvB K tt (Γ1 d) (f d)) (he : ∀ d ∈ xs, f d = true → EvD K te (Γ1 d) (h d)) : EvF K (tLc wi g tt te vs) Γ ((xs.filter f).map h) := fun G0 H0 σ G H hA Q hQ =>
  hi G0 H0 σ G H hA _ fun J G1 H1 g1 Y D hD => by
    have hD1 : G1 D = none := fresh_back g1.gh hD
    let Pv : Nat → Hp → Prop := fun i H' => ∃ G' acc, Gr G1 H1 G' H' ∧ G' D = none ∧ H' D = some (.lst acc) ∧ DtAll K G' acc (((xs.take i).filter f).map h)
    have acc_len : ∀ {i : Nat} {G' : Hp} {acc : List V}, DtAll K G' acc (((xs.take i).filter f).map h) → acc.length ≤ 100000 := fun {i G' acc} q => by
      rw [dpa_len q, List.length_map]
      exact Nat.le_trans (List.length_filter_le _ _) (by rw [List.length_take]; omega)
    refine ⟨fun i m H' => m = xs.length - i ∧ i ≤ xs.length ∧ Pv i H', ⟨xs.length, by simp, Nat.zero_le _, G1, [], gr_mut (Gr.refl g1.gh) hD hD1, hD1, upd_same, .nil⟩, ?_⟩
    rintro i m H' ⟨rfl, hil, G', acc, gr, gD, hD', hacc⟩
    by_cases hlt : i < xs.length
    · refine .inr ⟨Y.go i H' (by simpa using hlt) (gr.gg.trans gr.gh), Pv (i + 1), fun H2 p => ⟨xs.length - (i + 1), by omega, rfl, hlt, p⟩, fun x H2 hy => ?_⟩
      have hd : xs[i]? = some xs[i] := List.getElem?_eq_getElem hlt
      have hm : xs[i] ∈ xs := List.getElem_mem hlt
      obtain ⟨G2, g2, hx⟩ := Y.yld i (enc xs[i]) x G' H' H2 (by rw [List.getElem?_map, hd]; rfl) hy gr.gg gr.gh
      have hA2 : At K G0 H0 (wipeG Γ vs) (L2.wipe σ vs) G2 H2 := (((hA.grow g1).grow gr).grow g2).wipe vs
      refine hg _ hm G0 H0 _ G2 H2 x hA2 hx _ fun σ2 hA3 l3 f3 => ⟨wipe_eq l3 f3 hv, ht _ hm G0 H0 σ2 G2 H2 hA3 _ fun G3 H3 g3 => ?_⟩
      have tk : xs.take (i + 1) = xs.take i ++ [xs[i]] := by rw [List.take_add_one, hd]; rfl
      cases hf : f xs[i] with
      | true =>
        rw [if_pos rfl]
        refine he _ hm hf G0 H0 σ2 G3 H3 (hA3.grow g3) _ fun y G4 H4 g4 d4 => ?_
        have g24 : Gr G' H' G4 H4 := (g2.trans g3).trans g4
        have gD4 : G4 D = none := g24.fr D _ hD' gD
        refine ⟨acc, g24.hh _ _ hD', sz_lt (Nat.lt_of_le_of_lt (by
          rw [dpa_len hacc, List.length_map]
          exact Nat.le_trans (List.length_filter_le _ _) (by rw [List.length_take]; exact Nat.min_le_left _ _)) (Nat.lt_of_lt_of_le hlt hz)), G4, acc ++ [y], gr_mut (gr.trans g24) hD gD4, gD4, upd_same, ?_⟩
        rw [tk, List.filter_append, List.map_append, List.filter_cons, if_pos hf]
        exact dpa_app (dp_exs g24.gg _ _ hacc) (.cons d4 .nil)
      | false =>
        rw [if_neg Bool.false_ne_true]
        have g23 : Gr G' H' G3 H3 := g2.trans g3
        refine ⟨G3, acc, gr.trans g23, g23.fr D _ hD' gD, g23.hh _ _ hD', ?_⟩
        rw [tk, List.filter_append, List.map_append, List.filter_cons, if_neg (by rw [hf]; exact Bool.false_ne_true)]
        have e : DtAll K G3 acc (((xs.take i).filter f).map h) := dp_exs g23.gg _ _ hacc
        simpa using e
    · have e : i = xs.length := by omega
      subst e
      refine .inl ⟨by have := Y.stop H' (gr.gg.trans gr.gh); rwa [List.length_map] at this, ?_⟩
      rw [List.take_length] at hacc
      exact hQ D acc G' H' (g1.trans gr) (fresh_back g1.hh hD) gD hD' hacc
end
section
variable {X : Cx} {P : Program} {w : World} {K : PySem.W.Frag} {mg : Str → Option Value} {base : Heap} {N : List Str} {sc scope : Scope} {k : Nat}
variable {Γ : List Sl} {elt iter : Expr} {ifs : List Expr} {pos px : Pos}
theorem sw_cell {gs : List Comprehension} {py : Pos} {y : Str} {l : Nat} {env : Env} (hy : env.scope.names.lookup y = some .cell) : swapsWith (.ListComp elt gs scope pos) (some (.Name y py)) l env = pure false := by
  have ky : env.kindOf y = some .cell := hy
  unfold swapsWith
  have e : ((some NameKind.cell : Option NameKind) == some .local) = false := by decide
  simp only [ky, e, Bool.and_false, Bool.false_and]
theorem ef_lcN {α : Type} (F : XF X P w K mg base N sc k) (i : Nat) (xs : List α) (enc : α → PyData) {x : Str} (hs : Src X Γ (.Name x px) iter (xs.map enc)) (f : α → Bool) (h : α → PyData)
    (ht : ∀ Y, XF Y P w K mg base N (relS scope sc) k → ∀ d ∈ xs, Tis Y (Γ.set i (.dat (enc d))) ifs (f d)) (he : ∀ Y, XF Y P w K mg base N (relS scope sc) k → ∀ d ∈ xs, f d = true → E Y (Γ.set i (.dat (enc d))) elt (h d))
    (hz : xs.length ≤ 100000) (ok : blkC N sc scope [(x, i)] = true := by decide +kernel) (hN : N[i]? = some x := by rfl) (hl : lclB (relS scope sc) x = true := by rfl) (hfs : ∀ x, foldedSetIterable iter X.env x = pure x := by intro _; rfl) : Ef X Γ (.ListComp elt [⟨.Name x px, iter, ifs, 0⟩] scope pos) ((xs.filter f).map h) := by
  obtain ⟨wi, pi, ev⟩ := hs
  have hK := F.hK
  exact ef_of (pe_lc F.calm (by rw [F.hN]; exact F.nd) pi (blk_ok F ok) (fun s H C cl fp => pg_nmB (F.blk s H C cl fp) i hN hl) ptB peB hfs) (evf_lc (is := [i]) (vs := [i]) xs enc f h (fun d => Γ.set i (.dat (enc d))) ev hz (by simp) (by
    rw [hK]
    intro d _
    have := tgd_name (K := K) (d := enc d) (Γ := wipeG Γ ([(x, i)].map (·.2))) i
    simpa [wipeG, List.set_set] using this) (fun d hd => evb_B fun s H C cl fp => ht _ (F.blk s H C cl fp) d hd) (fun d hd hf => evd_B fun s H C cl fp => he _ (F.blk s H C cl fp) d hd hf))
end
/-! ### _law_opened, _law_stepped -/
theorem opnB_zero (p pl : Bts) : opnB p pl 0 = decide (0 ∈ pl) := by
  have : opnB p pl 0 = true ↔ 0 ∈ pl := by
    rw [opnB_iff]
    constructor
    · rintro ⟨i, h1, h2, _⟩
      rwa [show 0 = i by omega]
    · intro h
      exact ⟨0, h, Nat.le_refl _, fun m h1 h2 => by omega⟩
  exact Bool.eq_iff_iff.mpr (this.trans decide_eq_true_iff.symm)
theorem opnB_succ {p pl : Bts} {n : Nat} (hn : n < p.length) : opnB p pl (n + 1) = ((opnB p pl n && decide (p[n]? = some 42)) || decide (n + 1 ∈ pl)) := by
  have : opnB p pl (n + 1) = true ↔ ((opnB p pl n = true ∧ p[n]? = some 42) ∨ n + 1 ∈ pl) := by
    rw [opnB_iff, opnB_iff]
    constructor
    · rintro ⟨i, h1, h2, h3⟩
      by_cases q : i = n + 1
      · exact .inr (q ▸ h1)
      · exact .inl ⟨⟨i, h1, by omega, fun m m1 m2 m3 => h3 m m1 (by omega) m3⟩, h3 n (by omega) (by omega) hn⟩
    · rintro (⟨⟨i, h1, h2, h3⟩, h4⟩ | h)
      · refine ⟨i, h1, by omega, fun m m1 m2 m3 => ?_⟩
        by_cases q : m = n
        · rw [q]; exact h4
        · exact h3 m m1 (by omega) m3
      · exact ⟨n + 1, h, Nat.le_refl _, fun m h1 h2 => by omega⟩
  refine Bool.eq_iff_iff.mpr (this.trans ?_)
  simp
def rowR (p pl : Bts) (n : Nat) : List Bool := (List.range (p.length + 1)).map fun k => if k ≤ n then opnB p pl k else decide (k ∈ pl)
theorem rowR_at {p pl : Bts} {n k : Nat} (hk : k ≤ p.length) : (rowR p pl n)[k]? = some (if k ≤ n then opnB p pl k else decide (k ∈ pl)) := by
  unfold rowR
  rw [List.getElem?_map, List.getElem?_range (by omega)]
  rfl
theorem rowR_len (p pl : Bts) (n : Nat) : (rowR p pl n).length = p.length + 1 := by simp [rowR]
theorem rowR_step {p pl : Bts} {n : Nat} (hn : n < p.length) : rowR p pl (n + 1) = if opnB p pl n && decide (p[n]? = some 42) then (rowR p pl n).set (n + 1) true else rowR p pl n := by
  apply List.ext_getElem?
  intro j
  by_cases hj : j ≤ p.length
  · rw [rowR_at hj]
    by_cases q : n + 1 = j
    · subst q
      rw [if_pos (Nat.le_refl _), opnB_succ hn]
      split
      · rename_i h
        rw [List.getElem?_set_self (by rw [rowR_len]; omega), h]
        rfl
      · rename_i h
        rw [rowR_at hj, if_neg (by omega)]
        have : (opnB p pl n && decide (p[n]? = some 42)) = false := by simpa using h
        rw [this]
        rfl
    · have e : (if opnB p pl n && decide (p[n]? = some 42) then (rowR p pl n).set (n + 1) true else rowR p pl n)[j]? = (rowR p pl n)[j]? := by
        split
        · rw [List.getElem?_set_ne q]
        · rfl
      rw [e, rowR_at hj]
      by_cases h : j ≤ n
      · rw [if_pos h, if_pos (by omega)]
      · rw [if_neg h, if_neg (by omega)]
  · have h1 : (rowR p pl (n + 1))[j]? = none := List.getElem?_eq_none (by rw [rowR_len]; omega)
    rw [h1]
    symm
    apply List.getElem?_eq_none
    split <;> simp [rowR_len] <;> omega
section
variable {P : Program} {w : World} {K : PySem.W.Frag} {mg : Str → Option Value} {base : Heap}
def d_law_opened : List PyData → PyData → Prop := fun ds r => ∃ (p pl : Bts) (x : PyData), p.length ≤ 20 ∧ pl.length ≤ 1000 ∧ (∀ i ∈ pl, i ≤ p.length) ∧ (x = .tuple (pl.map dN) ∨ x = .list (pl.map dN)) ∧ ds = [dNs p, x] ∧ r = dNs (opn p pl)
theorem nat_in (n : Nat) (l : List Nat) : decide ((n : Int) ∈ l.map fun (n : Nat) => (n : Int)) = decide (n ∈ l) := decide_eq_decide.mpr (by
  rw [List.mem_map]
  constructor
  · rintro ⟨a, h, e⟩
    rwa [show n = a by omega]
  · exact fun h => ⟨_, h, rfl⟩)
theorem w_law_opened {f : Addr} {fd : FuncData} (Fn : FnP K "_law_opened" s_law_opened f fd) (hm : mg "_law_opened" = some (.ref f)) (bn : BN mg) : FnF P w K mg base "_law_opened" 1 d_law_opened := by
  refine fn_mk Fn hm c_law_opened (fun ds r ⟨_, _, _, _, _, _, _, h, _⟩ => by rw [h]; rfl) (fun _ _ _ _ _ _ us hl => match us, hl with | [_, _], _ => rfl) fun X F xd ds r ⟨p, pl, x, hp, hpl, hpi, hx, h, hr⟩ => ?_
  subst h hr
  have hsq : seqOf x = some (pl.map dN) := by rcases hx with rfl | rfl <;> rfl
  have hl1 : ∀ {Y : Cx} {sc : Scope} (FY : XF Y P w K mg base n_law_opened sc 0) (hg : glB sc "len" = true) (hg2 : visB sc "_law_pattern_here" = true) {s2 s3 pos p2 p3}, E Y [.dat (dNs p), .dat x, s2, s3] (.Call (.Name "len" p2) [.Name "_law_pattern_here" p3] [] pos) (.int (p.length : Nat)) := fun {Y sc} FY hg hg2 {_ _ _ _ _} => e_cast (e_lenT FY bn (ds := p.map dN) (nm FY 0 (hv := hg2)) hg) (by simp)
  refine setF F xd 2 (ds := bD (rowR p pl 0)) ?_ ?_ (hs := sw_cell (by rw [F.hsc]; rfl))
  · have e : bD (rowR p pl 0) = ((List.range (p.length + 1)).filter fun _ => true).map fun k => PyData.bool (decide (k ∈ pl)) := by
      rw [List.filter_eq_self.mpr fun _ _ => rfl]
      simp only [bD, rowR, List.map_map]
      refine List.map_congr_left fun k _ => ?_
      show PyData.bool _ = PyData.bool _
      congr 1
      show (if k ≤ 0 then opnB p pl k else decide (k ∈ pl)) = decide (k ∈ pl)
      by_cases q : k ≤ 0
      · rw [if_pos q, show k = 0 by omega, opnB_zero]
      · rw [if_neg q]
    rw [e]
    refine ef_lcN F 3 (List.range (p.length + 1)) (fun (i : Nat) => .int (0 + (i : Int))) (src_rng1 F bn (n := ((p.length + 1 : Nat) : Int)) (e_cast (x := .int ((p.length : Nat) + 1)) (e_add (hl1 F rfl rfl) e_int) (by simp)) (by omega) (by omega) rfl) (fun _ => true) (fun k => .bool (decide (k ∈ pl))) (fun Y FY k hk => .nil) (fun Y FY k hk _ => ?_) (by simp; omega)
    refine e_cast (e_in (nm FY 3) (nm FY 1) rfl hsq (us := (pl.map fun (n : Nat) => (n : Int)).map V.int) (by simp [flatD, Function.comp_def])) ?_
    rw [inV_ints, show (0 + (k : Int)) = k by omega, nat_in]
  refine forN F xd 3 (List.range p.length) (fun (i : Nat) => .int (0 + (i : Int))) (src_rng1 F bn (n := (p.length : Nat)) (hl1 F rfl rfl) (by omega) (by omega) rfl) (fun n Γ' => ∃ s3, Γ' = [.dat (dNs p), .dat x, .ob (oL X.K (bD (rowR p pl n))), s3]) ⟨_, rfl⟩ ?_ ?_
  · rintro n i Γ' hi ⟨s3, rfl⟩
    obtain ⟨hm, rfl⟩ := range_snoc hi
    have hg : p[i]? = some p[i] := List.getElem?_eq_getElem hm
    have e0 : (0 + (i : Int)) = (i : Nat) := by omega
    rw [rowR_step hm]
    refine when_ (v := opnB p pl i && decide (p[i]? = some 42)) (t_borrow 2 rfl (t_cast (t_and2 (u := opnB p pl i) (t_val (e_ixL (ds := bD (rowR p pl i)) (nm F 2) (nm F 3) (by rw [e0]; exact atI_nn (by simp [bD, rowR_at (Nat.le_of_lt hm)])))) fun _ => t_eq (e_ixT (ds := p.map dN) (d := dN p[i]) (nm F 0) (nm F 3) (by rw [e0]; exact atI_nn (by simp [hg]))) e_int (.int _ _)) ?_)) (fun h => ?_) (fun h => ?_)
    · congr 1
      rw [hg]
      refine decide_eq_decide.mpr ?_
      rw [Option.some.injEq]
      omega
    · rw [if_pos h]
      refine setIx F 2 (ds := bD (rowR p pl i)) (j := i + 1) (n := ((i + 1 : Nat) : Int)) e_bool (e_cast (x := .int (0 + (i : Int) + 1)) (e_add (nm F 3) e_int) (congrArg PyData.int (by omega))) (ixN_nn (by simp [bD, rowR_len]; omega)) (ss_nil (ss_nil ⟨.dat (.int (0 + (i : Int))), ?_⟩))
      simp [bD]
    · rw [if_neg (by rw [h]; exact Bool.false_ne_true)]
      exact ss_nil ⟨_, rfl⟩
  · rintro Γ' ⟨s3, rfl⟩
    rw [List.length_range]
    refine ss_freeze (i := 2) rfl ?_
    refine ret (e_tupleL F bn (lcN F 3 (List.range (p.length + 1)) (fun (i : Nat) => .int (0 + (i : Int))) (src_rng1 F bn (n := ((p.length + 1 : Nat) : Int)) (e_cast (x := .int ((p.length : Nat) + 1)) (e_add (hl1 F rfl rfl) e_int) (by simp)) (by omega) (by omega) rfl) (opnB p pl) dN (fun Y FY k hk => .one ?_) (fun Y FY k hk _ => e_cast (nm FY 3) (congrArg PyData.int (by omega))) (by simp; omega)) rfl) rfl
    have hk' : k ≤ p.length := by simpa [Nat.lt_succ_iff] using hk
    refine t_val (e_ixL (ds := bD (rowR p pl p.length)) (nm FY 2) (nm FY 3) ?_)
    rw [show (0 + (k : Int)) = (k : Nat) by omega]
    exact atI_nn (by simp [bD, rowR_at hk', hk'])
def d_law_stepped : List PyData → PyData → Prop := fun ds r => ∃ (p pl : Bts) (b : Nat), p.length ≤ 20 ∧ pl.length ≤ 1000 ∧ (∀ i ∈ pl, i ≤ p.length) ∧ ds = [dNs p, dNs pl, dN b] ∧ r = dNs (mvd p pl b)
theorem w_law_stepped {f : Addr} {fd : FuncData} (Fn : FnP K "_law_stepped" s_law_stepped f fd) (hm : mg "_law_stepped" = some (.ref f)) (bn : BN mg) (f1 : FnF P w K mg base "_law_opened" 1 d_law_opened) : FnF P w K mg base "_law_stepped" 2 d_law_stepped := by
  refine fn_mk Fn hm c_law_stepped (fun ds r ⟨p, pl, x, _, _, _, h, _⟩ => by rw [h]; rfl) (fun _ _ _ _ _ _ us hl => match us, hl with | [_, _, _], _ => rfl) fun X F xd ds r ⟨p, pl, b, hp, hpl, hpi, h, hr⟩ => ?_
  subst h hr
  refine setF F xd 3 (ef_list as_nil (by decide)) ?_
  refine forN F xd 4 pl dN (src_tup (nm F 1)) (fun n Γ' => ∃ s, Γ' = [.dat (dNs p), .dat (dNs pl), .dat (dN b), .ob (oL X.K ((tgt p (pl.take n) b).map dN)), s]) ⟨.un, rfl⟩ ?_ ?_
  · rintro n i Γ' hi ⟨s, rfl⟩
    have hil := hpi i (List.mem_of_getElem? hi)
    have tk : tgt p (pl.take (n + 1)) b = tgt p (pl.take n) b ++ tgt p [i] b := by
      unfold tgt
      rw [← List.filterMap_append, List.take_add_one, hi]
      rfl
    have hlen : ((tgt p (pl.take n) b).map dN).length < 100000 := by
      have := tgt_len (p := p) (pl := pl.take n) (b := b)
      simp at this ⊢
      omega
    by_cases c : i < p.length
    · have hc : p[i]? = some p[i] := List.getElem?_eq_getElem c
      have ti : ∀ {e1 e2 pos ctx}, E X ctx e1 (.tuple (p.map dN)) → E X ctx e2 (dN i) → PlainIx e2 → E X ctx (.Subscript e1 e2 pos) (dN p[i]) := fun {e1 e2 pos ctx} h1 h2 h3 => e_ixT (ds := p.map dN) (d := dN p[i]) h1 h2 (atI_nn (by rw [List.getElem?_map, hc]; rfl)) h3
      refine if_ (t_and2 (t_lt (nm F 4) (e_lenT F bn (ds := p.map dN) (nm F 0) rfl)) fun _ => t_eq (ti (nm F 0) (nm F 4) (fun _ _ => rfl)) e_int (.int _ _)) (fun h => ?_) (fun h => ?_)
      · have h42 : p[i] = 42 := by
          simp at h
          omega
        refine app F 3 (nm F 4) (ss_nil (ss_nil ⟨.dat (dN i), ?_⟩)) hlen
        have e1 : tgt p [i] b = [i] := by simp [tgt, hc, h42]
        rw [tk, e1, List.map_append]
        rfl
      · have h42 : ¬ p[i] = 42 := by
          simp at h
          intro e
          have := h c
          omega
        refine when_ (t_and2 (t_lt (nm F 4) (e_lenT F bn (ds := p.map dN) (nm F 0) rfl)) fun _ => t_eq (ti (nm F 0) (nm F 4) (fun _ _ => rfl)) (nm F 2) (.int _ _)) (fun h => ?_) (fun h => ?_)
        · have hb : p[i] = b := by
            simp at h
            omega
          refine app F 3 (e_add (nm F 4) e_int) (ss_nil (ss_nil (ss_nil ⟨.dat (dN i), ?_⟩))) hlen
          have e1 : tgt p [i] b = [i + 1] := by
            subst hb
            simp [tgt, hc, h42]
          rw [tk, e1, List.map_append]
          rfl
        · have hb : ¬ p[i] = b := by
            simp at h
            intro e
            have := h c
            omega
          refine ss_nil (ss_nil ⟨.dat (dN i), ?_⟩)
          have e1 : tgt p [i] b = [] := by simp [tgt, hc, h42, hb]
          rw [tk, e1, List.append_nil]
          rfl
    · have hn : p[i]? = none := List.getElem?_eq_none (by omega)
      refine if_ (t_and2 (v := false) (t_lt (nm F 4) (e_lenT F bn (ds := p.map dN) (nm F 0) rfl)) fun h => ?_) (fun h => by simp at h) (fun _ => ?_)
      · exfalso
        simp at h
        omega
      · refine when_ (t_and2 (v := false) (t_lt (nm F 4) (e_lenT F bn (ds := p.map dN) (nm F 0) rfl)) fun h => ?_) (fun h => by simp at h) (fun _ => ?_)
        · exfalso
          simp at h
          omega
        · refine ss_nil (ss_nil ⟨.dat (dN i), ?_⟩)
          have e1 : tgt p [i] b = [] := by simp [tgt, hn]
          rw [tk, e1, List.append_nil]
          rfl
  · rintro Γ' ⟨s, rfl⟩
    rw [List.take_length]
    refine ss_freeze (i := 3) rfl (ret (ca2 F f1 (nm F 0) (nm F 3) ⟨p, tgt p pl b, _, hp, ?_, tgt_le hpi, .inr rfl, rfl, rfl⟩) rfl)
    have := tgt_len (p := p) (pl := pl) (b := b)
    omega
end
end Z
set_option Elab.async false
set_option linter.all false
set_option maxRecDepth 100000
set_option maxHeartbeats 4000000
namespace Z
open PySem PySem.Spec PyProof.Rows L2 Evl
def patsT (ts : List Tm) : List Bts := ts.foldl addP []
def addL (acc : List Nat) (b : Nat) : List Nat := if b ∉ acc ∧ b ≠ 42 then acc ++ [b] else acc
def ltL (ps : List Bts) : List Nat := ps.foldl (fun acc p => p.foldl addL acc) [0]
def stsN (ps : List Bts) : List (Sts × Bts) := bfs ps (ltL ps) 513 [(stS ps, [])] 0
def stsM (ps : List Bts) : List Sts := (stsN ps).map (·.1)
theorem addL_sub {acc : List Nat} {b : Nat} : ∀ x ∈ addL acc b, x ∈ acc ∨ x = b := fun x hx => by
  unfold addL at hx
  split at hx
  · simpa using hx
  · exact .inl hx
theorem addL_nd {acc : List Nat} {b : Nat} (h : acc.Nodup) : (addL acc b).Nodup := by
  unfold addL
  split
  · rename_i hc
    rw [List.nodup_append]
    exact ⟨h, by simp, fun a ha c hc' e => hc.1 (by simp at hc'; rw [← hc', ← e]; exact ha)⟩
  · exact h
theorem addLs (p : Bts) : ∀ acc : List Nat, (acc.Nodup → (p.foldl addL acc).Nodup) ∧ ∀ x ∈ p.foldl addL acc, x ∈ acc ∨ x ∈ p := by
  induction p with
  | nil => exact fun acc => ⟨fun h => h, fun x h => .inl h⟩
  | cons b p ih =>
    intro acc
    obtain ⟨h1, h2⟩ := ih (addL acc b)
    refine ⟨fun h => h1 (addL_nd h), fun x hx => ?_⟩
    rcases h2 x hx with h | h
    · rcases addL_sub x h with h | h
      · exact .inl h
      · exact .inr (by simp [h])
    · exact .inr (by simp [h])
theorem ltL_ok (ps : List Bts) : ∀ acc : List Nat, (acc.Nodup → (ps.foldl (fun acc p => p.foldl addL acc) acc).Nodup) ∧ ∀ x ∈ ps.foldl (fun acc p => p.foldl addL acc) acc, x ∈ acc ∨ ∃ p ∈ ps, x ∈ p := by
  induction ps with
  | nil => exact fun acc => ⟨fun h => h, fun x h => .inl h⟩
  | cons p ps ih =>
    intro acc
    obtain ⟨h1, h2⟩ := ih (p.foldl addL acc)
    obtain ⟨g1, g2⟩ := addLs p acc
    refine ⟨fun h => h1 (g1 h), fun x hx => ?_⟩
    rcases h2 x hx with h | ⟨q, hq, h⟩
    · rcases g2 x h with h | h
      · exact .inl h
      · exact .inr ⟨p, by simp, h⟩
    · exact .inr ⟨q, by simp [hq], h⟩
theorem byt_len {ps : List Bts} (ok : ∀ p ∈ ps, ∀ b ∈ p, b ∈ ([97, 98, 42, 46] : List Nat)) {l : List Nat} (h : l.Nodup) (hs : ∀ x ∈ l, x ∈ ([0] : List Nat) ∨ ∃ p ∈ ps, x ∈ p) : l.length ≤ 5 := by
  have := nodup_le (m := [0, 97, 98, 42, 46]) h fun x hx => by
    rcases hs x hx with e | ⟨p, hp, hb⟩
    · simp at e
      simp [e]
    · have := ok p hp x hb
      simp at this ⊢
      omega
  exact this
section
variable {P : Program} {w : World} {K : PySem.W.Frag} {mg : Str → Option Value} {base : Heap}
def d_law_patterns : List PyData → PyData → Prop := fun ds r => ∃ ts : List Tm, ts.length ≤ 1000 ∧ ds = [.list (ts.map dT)] ∧ r = .list ((patsT ts).map dNs)
theorem w_law_patterns {f : Addr} {fd : FuncData} (Fn : FnP K "_law_patterns" s_law_patterns f fd) (hm : mg "_law_patterns" = some (.ref f)) : FnF P w K mg base "_law_patterns" 1 d_law_patterns := by
  refine fn_mk Fn hm c_law_patterns (fun ds r ⟨p, _, h, _⟩ => by rw [h]; rfl) (fun _ _ _ _ _ _ us hl => match us, hl with | [_], _ => rfl) fun X F xd ds r ⟨ts, hts, h, hr⟩ => ?_
  subst h hr
  refine setF F xd 1 (ef_list as_nil (by decide)) ?_
  refine forN2 F xd 2 3 ts (fun t => .bool t.neg) (fun t => dB t.body) (src_list (ds := ts.map dT) (nm F 0)) (fun j Γ' => ∃ s2 s4, Γ' = [.dat (.list (ts.map dT)), .ob (oL X.K (((ts.take j).foldl addP []).map dNs)), s2, s4]) ⟨.un, .un, rfl⟩ ?_ ?_
  · rintro j t Γ' ht ⟨s2, s4, rfl⟩
    have hb := fold_len addP (fun _ => 1) addP_len (ts.take j) []
    rw [sum_ones, List.length_take, List.length_nil] at hb
    rw [take_fold addP _ ht]
    generalize hacc : (ts.take j).foldl addP [] = acc at hb ⊢
    obtain ⟨ng, b⟩ := t
    obtain ⟨x, rest, hb'⟩ : ∃ x rest, dB b = .tuple (.str b.word :: x :: rest) := by cases b <;> exact ⟨_, _, rfl⟩
    have eb : ∀ {pos s}, E X [.dat (.list (ts.map dT)), s, .dat (.bool ng), .dat (dB b)] (.Name "_law_body_here" pos) (.tuple (.str b.word :: x :: rest)) := fun {pos s} => hb' ▸ nm F 3
    have e1 : ∀ {pos pos' pos'' j s}, E X [.dat (.list (ts.map dT)), s, .dat (.bool ng), .dat (dB b)] (.Subscript (.Name "_law_body_here" pos) (.Constant (.int 0) j pos') pos'') (.str b.word) := fun {_ _ _ _ _} => e_ixT eb e_int at0
    by_cases hnam : ∃ q, b = .nam q
    · obtain ⟨q, rfl⟩ := hnam
      have eb' : ∀ {pos s'}, E X [.dat (.list (ts.map dT)), s', .dat (.bool ng), .dat (dB (.nam q))] (.Name "_law_body_here" pos) (.tuple [.str "name", dNs q]) := fun {_ _} => nm F 3
      refine when_ (t_and2 (t_eq e1 e_str (.str _ _)) fun _ => t_borrow 1 rfl (t_ninD F (ds := acc.map dNs) (e_ixT eb' e_int rfl) (nm F 1) (noscr_nats q) (noscrs_map noscr_nats _) (shp_shaped (shp_nats q)) (shp_shaped (shp_natss _)))) (fun h => ?_) (fun h => ?_)
      · rw [any_nats] at h
        have hq : q ∉ acc := by simp [Bd.word] at h; exact h
        refine app F 1 (ds := acc.map dNs) (e_ixT eb' e_int rfl) (ss_nil (ss_nil ⟨.dat (.bool ng), .dat (dB (.nam q)), ?_⟩)) (by rw [List.length_map]; omega)
        have e2 : addP acc ⟨ng, .nam q⟩ = acc ++ [q] := by simp [addP, hq]
        rw [e2, List.map_append]
        rfl
      · rw [any_nats] at h
        have hq : q ∈ acc := by simpa [Bd.word] using h
        have e2 : addP acc ⟨ng, .nam q⟩ = acc := by simp [addP, hq]
        rw [e2]
        exact ss_nil ⟨_, _, rfl⟩
    · have hw : ¬ b.word = "name" := by
        cases b with
        | nam q => exact absurd ⟨q, rfl⟩ hnam
        | num g s n => exact nf_name g
        | isk k => show ¬ ("is" : Str) = "name"; decide +kernel
        | could k => show ¬ ("could" : Str) = "name"; decide +kernel
        | act k => show ¬ ("act" : Str) = "name"; decide +kernel
      have e2 : addP acc ⟨ng, b⟩ = acc := by
        cases b with
        | nam q => exact absurd ⟨q, rfl⟩ hnam
        | _ => rfl
      rw [e2]
      exact when_ (t_and2 (v := false) (t_eq e1 e_str (.str _ _)) fun h => absurd (of_decide_eq_true h) hw) (fun h => by simp at h) (fun h => ss_nil ⟨_, _, rfl⟩)
  · rintro Γ' ⟨s2, s4, rfl⟩
    rw [List.take_length]
    exact ss_freeze (i := 1) rfl (ret (nm F 1) rfl)
theorem still_dSt (st : Sts) : still (dSt st) = true := by
  show stills _ = true
  exact stills_map _ fun _ _ => still_nats _
def d_law_states : List PyData → PyData → Prop := fun ds r => ∃ ps : List Bts, okP ps ∧ ds = [.list (ps.map dNs), .int 512] ∧ r = .list ((stsM ps).map dSt)
theorem bfsE_take {ps : List Bts} {ls : List Nat} {n b : Nat} {ns : List (Sts × Bts)} {e : Sts × Bts} (h : ls[n]? = some b) : bfsE ps (ls.take (n + 1)) ns e = bfs1 ps e (bfsE ps (ls.take n) ns e) b := by
  unfold bfsE
  rw [take_snoc h, List.foldl_append]
  rfl
def seE (ns : List (Sts × Bts)) : List En := ns.map fun e => (.inr e.1, none)
theorem lk_se {st : Sts} : ∀ {ns : List (Sts × Bts)}, (lk (seE ns) (tkN (.inr st))).isSome = decide (st ∈ ns.map (·.1))
  | [] => rfl
  | x :: ns => by
    by_cases q : x.1 = st
    · subst q
      simp [lk, seE]
    · have hne : ¬ tkN (.inr x.1) = tkN (.inr st) := fun z => q (tkN_sts z)
      have ih := lk_se (st := st) (ns := ns)
      have q' : ¬ st = x.1 := fun e => q e.symm
      have e : (lk (seE (x :: ns)) (tkN (.inr st))) = lk (seE ns) (tkN (.inr st)) := by
        simp only [lk, seE, List.map_cons, List.find?_cons, hne, decide_false]
      rw [e, ih, List.map_cons]
      simp only [List.mem_cons, q', false_or]
theorem zip_range {ps : List Bts} {st : Sts} {β : Type} (g : Bts → Bts → β) (h : st.length = ps.length) : ((List.range ps.length).map fun k => g (ps.getD k []) (st.getD k [])) = (ps.zip st).map fun q => g q.1 q.2 := by
  apply List.ext_getElem?
  intro i
  rw [List.getElem?_map, List.getElem?_map]
  by_cases hi : i < ps.length
  · have h1 : ps[i]? = some ps[i] := List.getElem?_eq_getElem hi
    have h2 : st[i]? = some (st[i]'(by omega)) := List.getElem?_eq_getElem (by omega)
    rw [List.getElem?_range hi, List.getElem?_zip_eq_some (z := (ps[i], st[i]'(by omega))) |>.mpr ⟨h1, h2⟩]
    simp [List.getD_eq_getElem?_getD, h1, h2]
  · rw [List.getElem?_eq_none (by simpa using hi), List.getElem?_eq_none (by simp; omega)]
    rfl
theorem w_law_states {f : Addr} {fd : FuncData} (Fn : FnP K "_law_states" s_law_states f fd) (hm : mg "_law_states" = some (.ref f)) (bn : BN mg) (f1 : FnF P w K mg base "_law_opened" 1 d_law_opened) (f2 : FnF P w K mg base "_law_stepped" 2 d_law_stepped) : FnF P w K mg base "_law_states" 3 d_law_states := by
  refine fn_mk Fn hm c_law_states (fun ds r ⟨p, _, h, _⟩ => by rw [h]; rfl) (fun _ _ _ _ _ _ us hl => match us, hl with | [_, _], _ => rfl) fun X F xd ds r ⟨ps, ok, h, hr⟩ => ?_
  subst h hr
  have hp20 : ∀ p ∈ ps, p.length ≤ 20 := fun p hp => (ok.2.1 p hp).1
  have hpb : ∀ p ∈ ps, ∀ b ∈ p, b ∈ ([97, 98, 42, 46] : List Nat) := fun p hp => (ok.2.1 p hp).2
  have hpl := ok.1
  refine setF F xd 2 (ds := ([0] : List Nat).map dN) (ef_list (as_cons e_int as_nil) (by decide)) ?_
  refine forN F xd 3 ps dNs (src_list (nm F 0)) (fun n Γ' => ∃ s3 s4 s5 s6 s7 s8 s9 s10, Γ' = [.dat (.list (ps.map dNs)), .dat (.int 512), .ob (oL X.K (((ps.take n).foldl (fun acc p => p.foldl addL acc) [0]).map dN)), s3, s4, s5, s6, s7, s8, s9, s10]) ⟨_, _, _, _, _, _, _, _, rfl⟩ ?_ ?_
  · rintro n p Γ' hp ⟨s3, s4, s5, s6, s7, s8, s9, s10, rfl⟩
    have hpm := List.mem_of_getElem? hp
    rw [take_fold _ _ hp]
    have hacc := ltL_ok (ps.take n) [0]
    generalize (ps.take n).foldl (fun acc p => p.foldl addL acc) [0] = acc at hacc ⊢
    refine forN F xd 4 p dN (src_tup (nm F 3)) (fun m Γ' => ∃ s4 s5 s6 s7 s8 s9 s10, Γ' = [.dat (.list (ps.map dNs)), .dat (.int 512), .ob (oL X.K (((p.take m).foldl addL acc).map dN)), .dat (dNs p), s4, s5, s6, s7, s8, s9, s10]) ⟨_, _, _, _, _, _, _, rfl⟩ ?_ ?_
    · rintro m b Γ' hb ⟨s4, s5, s6, s7, s8, s9, s10, rfl⟩
      rw [take_fold addL _ hb]
      have hbm := List.mem_of_getElem? hb
      have h2 := addLs (p.take m) acc
      have hlen : ((p.take m).foldl addL acc).length ≤ 5 := byt_len hpb (h2.1 (hacc.1 (by simp))) fun x hx => by
        rcases h2.2 x hx with h | h
        · rcases hacc.2 x h with h | ⟨q, hq, h⟩
          · exact .inl h
          · exact .inr ⟨q, List.mem_of_mem_take hq, h⟩
        · exact .inr ⟨p, hpm, List.mem_of_mem_take h⟩
      generalize (p.take m).foldl addL acc = acc2 at hlen ⊢
      refine when_ (v := decide (b ∉ acc2) && decide (b ≠ 42)) (t_borrow 2 rfl (t_cast (t_and2 (t_nin (nm F 4) (nm F 2) rfl rfl (us := (acc2.map fun (n : Nat) => (n : Int)).map V.int) (by simp [flatD, Function.comp_def])) fun _ => t_ne (nm F 4) e_int (.int _ _)) ?_)) (fun h => ?_) (fun h => ?_)
      · rw [inV_ints, nat_in, decide_not, decide_not]
        congr 2
        exact decide_eq_decide.mpr (by omega)
      · have hc : b ∉ acc2 ∧ b ≠ 42 := by simpa using h
        have e : addL acc2 b = acc2 ++ [b] := by unfold addL; rw [if_pos hc]
        rw [e, List.map_append]
        exact app F 2 (ds := acc2.map dN) (nm F 4) (ss_nil (ss_nil ⟨_, _, _, _, _, _, _, rfl⟩)) (by simp; omega)
      · have hc : ¬ (b ∉ acc2 ∧ b ≠ 42) := by
          intro hc
          simp [hc.1, hc.2] at h
        have e : addL acc2 b = acc2 := by unfold addL; rw [if_neg hc]
        rw [e]
        exact ss_nil ⟨_, _, _, _, _, _, _, rfl⟩
    · rintro Γ' ⟨s4, s5, s6, s7, s8, s9, s10, rfl⟩
      rw [List.take_length]
      exact ss_nil ⟨_, _, _, _, _, _, _, _, rfl⟩
  · rintro Γ' ⟨s3, s4, s5, s6, s7, s8, s9, s10, rfl⟩
    rw [List.take_length]
    refine ss_freeze (i := 2) rfl ?_
    have hll : (ltL ps).length ≤ 5 := byt_len hpb ((ltL_ok ps [0]).1 (by simp)) (ltL_ok ps [0]).2
    have hL : ps.foldl (fun acc p => p.foldl addL acc) [0] = ltL ps := rfl
    rw [hL]
    refine setF F xd 5 (ds := [dSt (stS ps)]) (ef_list (as_cons (e_cast (e_tupleL F bn (lcA F 3 ps dNs (src_list (nm F 0)) (fun p => dNs (opn p [0])) (fun Y FY p hp => ca2 FY f1 (nm FY 3) (tu1 e_int) ⟨p, [0], .tuple [.int 0], hp20 p hp, by decide, by simp, .inl rfl, rfl, rfl⟩) (by omega)) rfl) (by simp [dSt, stS])) as_nil) (by simp)) ?_
    refine setN1 F xd 6 (tk := .inr (stS ps)) (v := none) (e_borrow 5 rfl (e_ixL (ds := [dSt (stS ps)]) (nm F 5) e_int rfl) (still_dSt _)) e_bool ?_
    refine set_ F xd 7 (d := dN 0) e_int ?_
    have hres : bfs ps (ltL ps) 513 [(stS ps, [])] 0 = stsN ps := rfl
    unfold stsM
    generalize stsN ps = res at hres
    generalize ltL ps = ls at hll hres
    have n0 : nOk ps [(stS ps, [])] := ⟨fun x hx => by simp at hx; rw [hx]; exact ⟨[], rfl⟩, by simp, by simp⟩
    refine forN F xd 8 (List.range 513) (fun (i : Nat) => .int (0 + (i : Int))) (src_rng1 F bn (n := 512 + 1) (e_add (nm F 1) e_int) (by omega) (by omega) rfl) (fun n Γ' => ∃ (ns : List (Sts × Bts)) (s3 s4 s8 s9 s10 : Sl), n ≤ ns.length ∧ nOk ps ns ∧ bfs ps ls (513 - n) ns n = res ∧
      Γ' = [.dat (.list (ps.map dNs)), .dat (.int 512), .dat (.list (ls.map dN)), s3, s4, .ob (oL X.K ((ns.map (·.1)).map dSt)), .ob (oN X.K w (seE ns)), .dat (dN n), s8, s9, s10]) ⟨[(stS ps, [])], _, _, _, _, _, by simp, n0, hres, rfl⟩ ?_ ?_
    · rintro n i Γ' hi ⟨ns, s3, s4, s8, s9, s10, hn, nok, hb, rfl⟩
      obtain ⟨hm, rfl⟩ := range_snoc hi
      have hle := nok.le ok
      obtain ⟨m', hm'⟩ : ∃ m', 513 - i = m' + 1 := ⟨513 - i - 1, by omega⟩
      rw [hm'] at hb
      refine when_ (v := decide (i = ns.length)) (t_borrow 5 rfl (t_cast (t_or2 (t_eq (nm F 7) (e_lenL F bn (nm F 5) rfl) (.int _ _)) fun _ => t_gt (e_lenL F bn (nm F 5) rfl) (nm F 1)) ?_)) (fun h => ?_) (fun h => ?_)
      · have e1 : decide ((i : Int) = (((ns.map (·.1)).map dSt).length : Nat)) = decide (i = ns.length) := decide_eq_decide.mpr (by simp; omega)
        have e2 : decide ((512 : Int) < (((ns.map (·.1)).map dSt).length : Nat)) = false := decide_eq_false (by simp; omega)
        rw [e1, e2, Bool.or_false]
      · have hi' : i = ns.length := of_decide_eq_true h
        have : res = ns := by
          rw [← hb]
          unfold bfs
          rw [List.getElem?_eq_none (by omega)]
        rw [this]
        exact ss_freeze (i := 5) rfl (ret (nm F 5) rfl)
      · have hlt : i < ns.length := by
          have : ¬ i = ns.length := of_decide_eq_false h
          omega
        have he : ns[i]? = some ns[i] := List.getElem?_eq_getElem hlt
        have hem := List.getElem_mem hlt
        generalize ns[i] = e at he hem
        obtain ⟨e1l, e1g⟩ := nok.st e hem
        have erch := nok.reach e hem
        have elen := nok.len e hem
        refine forN F xd 4 ls dN (src_list (nm F 2)) (fun n Γ' => ∃ s3 s4 s9 s10, Γ' = [.dat (.list (ps.map dNs)), .dat (.int 512), .dat (.list (ls.map dN)), s3, s4, .ob (oL X.K (((bfsE ps (ls.take n) ns e).map (·.1)).map dSt)), .ob (oN X.K w (seE (bfsE ps (ls.take n) ns e))), .dat (dN i), .dat (.int (0 + (i : Int))), s9, s10]) ⟨_, _, _, _, rfl⟩ ?_ ?_
        · rintro n b Γ' hbn ⟨s3, s4, s9, s10, rfl⟩
          rw [bfsE_take hbn]
          have hok := nOk.steps erch (ls.take n) nok elen
          obtain ⟨more, hmore⟩ := bfsE_pre (ps := ps) (e := e) (ls.take n) ns
          generalize bfsE ps (ls.take n) ns e = acc at hok hmore ⊢
          have hacc : acc[i]? = some e := by rw [hmore, List.getElem?_append_left hlt]; exact he
          have hle2 := hok.le ok
          have helen : e.2.length < acc.length := hok.len e (List.mem_of_getElem? hacc)
          have hle3 := (hok.step erch helen b).le ok
          refine set_ F xd 9 (d := dSt (mvS ps e.1 b)) (e_cast (e_tupleL F bn (lcA F 10 (List.range ps.length) (fun (i : Nat) => .int (0 + (i : Int))) (src_rng1 F bn (n := (ps.length : Nat)) (e_cast (e_lenL F bn (nm F 0) rfl) (by simp)) (by omega) (by omega) rfl) (fun k => dNs (mvd (ps.getD k []) (e.1.getD k []) b)) (fun Y FY k hk => ?_) (by simp; omega)) rfl) ?_) ?_
          · have hk' : k < ps.length := by simpa using hk
            have h1 : ps[k]? = some ps[k] := List.getElem?_eq_getElem hk'
            have h2 : e.1[k]? = some (e.1[k]'(by omega)) := List.getElem?_eq_getElem (by omega)
            have g := e1g (ps[k], e.1[k]'(by omega)) (List.mem_of_getElem? (i := k) (List.getElem?_zip_eq_some.mpr ⟨h1, h2⟩))
            have e0 : (0 + (k : Int)) = (k : Nat) := by omega
            simp only [List.getD_eq_getElem?_getD, h1, h2, Option.getD_some]
            have := hp20 _ (List.getElem_mem hk')
            have g2 := g.2
            refine ca3 FY f2 (e_ixL (ds := ps.map dNs) (d := dNs ps[k]) (nm FY 0) (nm FY 10) (by rw [e0]; exact atI_nn (by simp [h1]))) (e_borrow 5 (es := (acc.map (·.1)).map dSt) (by rw [FY.hK, ← F.hK]; rfl) (e_ixT (ds := e.1.map dNs) (d := dNs (e.1[k]'(by omega))) (e_ixL (ds := (acc.map (·.1)).map dSt) (d := dSt e.1) (nm FY 5) (nm FY 7) (atI_nn (by simp [hacc]))) (nm FY 10) (by rw [e0]; exact atI_nn (by simp [h2]))) (still_nats _)) (nm FY 4) ⟨ps[k], e.1[k]'(by omega), b, this, by simp at g2; omega, g.1, rfl, rfl⟩
          · show PyData.tuple _ = PyData.tuple _
            congr 1
            rw [zip_range (fun p s => dNs (mvd p s b)) e1l]
            simp [mvS, Function.comp_def]
          refine when_ (v := decide (mvS ps e.1 b ∉ acc.map (·.1))) (t_cast (t_ninN F 6 (en := seE acc) (tk := .inr (mvS ps e.1 b)) (nm F 9)) (by rw [lk_se, decide_not])) (fun h1 => ?_) (fun h1 => ?_)
          · have hn : mvS ps e.1 b ∉ acc.map (·.1) := of_decide_eq_true h1
            have hb1 : bfs1 ps e acc b = acc ++ [(mvS ps e.1 b, e.2 ++ [b])] := by unfold bfs1; rw [if_neg hn]
            rw [hb1] at hle3 ⊢
            rw [List.length_append, List.length_singleton] at hle3
            have hlk : lk (seE acc) (tkN (.inr (mvS ps e.1 b))) = none := by
              have := lk_se (st := mvS ps e.1 b) (ns := acc)
              rw [decide_eq_false hn] at this
              simpa using this
            refine putN F 6 (en := seE acc) (tk := .inr (mvS ps e.1 b)) (v := none) (nm F 9) e_bool hlk (by simp [seE]; omega) ?_
            have q1 : seE (acc ++ [(mvS ps e.1 b, e.2 ++ [b])]) = seE acc ++ [(.inr (mvS ps e.1 b), none)] := by simp [seE]
            have q2 : ((acc ++ [(mvS ps e.1 b, e.2 ++ [b])]).map (·.1)).map dSt = (acc.map (·.1)).map dSt ++ [dSt (mvS ps e.1 b)] := by simp
            rw [q1, q2]
            exact app F 5 (ds := (acc.map (·.1)).map dSt) (nm F 9) (ss_nil (ss_nil ⟨_, _, _, _, rfl⟩)) (by simp; omega)
          · have hn : mvS ps e.1 b ∈ acc.map (·.1) := Decidable.of_not_not (of_decide_eq_false h1)
            have hb1 : bfs1 ps e acc b = acc := by unfold bfs1; rw [if_pos hn]
            rw [hb1]
            exact ss_nil ⟨_, _, _, _, rfl⟩
        · rintro Γ' ⟨s3, s4, s9, s10, rfl⟩
          rw [List.take_length]
          obtain ⟨more, hmore⟩ := bfsE_pre (ps := ps) (e := e) ls ns
          refine set_ F xd 7 (d := dN (i + 1)) (e_cast (e_add (nm F 7) e_int) (by show PyData.int _ = PyData.int _; congr 1)) (ss_nil ⟨bfsE ps ls ns e, _, _, _, _, _, by rw [hmore, List.length_append]; omega, nOk.steps erch ls nok elen, ?_, rfl⟩)
          rw [show 513 - (i + 1) = m' by omega, ← hb]
          conv => rhs; unfold bfs
          rw [he]
    · rintro Γ' ⟨ns, s3, s4, s8, s9, s10, hn, nok, hb, rfl⟩
      have hle := nok.le ok
      rw [List.length_range] at hn
      omega
end
end Z
set_option Elab.async false
set_option linter.all false
set_option maxRecDepth 100000
set_option maxHeartbeats 4000000
/-! tuple * n for n = 0 and n = 1. -/
namespace Z
open PySem PySem.Spec PyProof.Rows L2 Evl
theorem tuple_mul1 (l : Addr) (items : Array Value) (n : Nat) (dd : Option Addr) (sl : Array (Option Value)) (u : Tok) :
    PySem.Meets (Builtin.«tuple.__mul__» ⟨[.ref l, .int 1 u], []⟩) (fun _ R s => s.heap.get? l = some { cls := .type "tuple", dict := dd, data := .seq items n, slots := sl } ∧ R (.ok (.ret (Value.ref l))) s) :=
  .of_wp fun prog w A R s h => by
    obtain ⟨hp, g, d, tk, os⟩ := s
    obtain ⟨hl, h⟩ := h
    have f1 := AutoSeq1.idx_int
    have c0 : (decide ((1 : Int) < -(2 ^ 63)) || decide ((1 : Int) ≥ 2 ^ 63)) = false := by decide
    have c1 : (items.isEmpty || (1 : Int) == 1) = true := by simp
    wp_walk using wpAny_loadPart' hl
    repeat (first
      | (refine wpAny_ite_false (decide_eq_false (by rw [c0]; exact Bool.false_ne_true)) ?_; wp_walk using wpAny_loadPart' hl)
      | (refine wpAny_ite_true (decide_eq_true (by rw [c1])) ?_; wp_walk using wpAny_loadPart' hl))
    exact ⟨_, rfl, h⟩
theorem tuple_mul0 (l : Addr) (items : Array Value) (n : Nat) (dd : Option Addr) (sl : Array (Option Value)) (u : Tok) (hi : items.isEmpty = false) :
    PySem.Meets (Builtin.«tuple.__mul__» ⟨[.ref l, .int 0 u], []⟩) (fun _ R s => s.heap.get? l = some { cls := .type "tuple", dict := dd, data := .seq items n, slots := sl } ∧
      R (.ok (.ret (Value.ref s.heap.objs.size))) { s with heap := s.heap.push { cls := Value.type "tuple", data := Data.seq #[] }, toks := s.toks }) :=
  .of_wp fun prog w A R s h => by
    obtain ⟨hp, g, d, tk, os⟩ := s
    obtain ⟨hl, h⟩ := h
    have f1 := AutoSeq1.idx_int
    have c0 : (decide ((0 : Int) < -(2 ^ 63)) || decide ((0 : Int) ≥ 2 ^ 63)) = false := by decide
    have c1 : (items.isEmpty || (0 : Int) == 1) = false := by rw [hi]; decide
    have c2 : (decide ((0 : Int) ≤ 0) || items.isEmpty) = true := by simp
    wp_walk using wpAny_loadPart' hl
    repeat (first
      | (refine wpAny_ite_false (decide_eq_false (by rw [c0]; exact Bool.false_ne_true)) ?_; wp_walk using wpAny_loadPart' hl)
      | (refine wpAny_ite_false (decide_eq_false (by rw [c1]; exact Bool.false_ne_true)) ?_; wp_walk using wpAny_loadPart' hl)
      | (refine wpAny_ite_true (decide_eq_true (by rw [c2])) ?_; wp_walk using wpAny_loadPart' hl))
    exact ⟨_, rfl, h⟩
def rRepS (K : PySem.W.Frag) : R2 := fun x y H Q => ∃ l k xs, x = .ref l ∧ y = .int k ∧ SqT K H l xs ∧ xs ≠ [] ∧ ((k = 1 ∧ Q (.ref l) H) ∨ (k = 0 ∧ ∀ p, H p = none → Q (.ref p) (upd H p (.tup []))))
theorem op_repS {X : Cx} : OpR X (binaryOp .Mult) (rRepS X.K) := by
  intro pins s σ H x y v u Q I rx ry h
  obtain ⟨l, k, xs, rfl, rfl, hT, hne, q⟩ := h
  cases rx
  obtain ⟨t, rfl⟩ := ry
  obtain ⟨its, r, ⟨⟨cls, dd, data, sl⟩, ho, hc, n, hd⟩, hs⟩ := I.tuple hT
  simp only at hc hd
  subst hc hd
  have hle : its.length = xs.length := r.length.symm
  have hi : its.toArray.isEmpty = false := by
    cases its with
    | nil => exact absurd (List.eq_nil_of_length_eq_zero hle.symm) hne
    | cons a b => rfl
  rcases q with ⟨rfl, q⟩ | ⟨rfl, q⟩
  · refine wpAny_binaryOp_repeat_ref (T := "tuple") (U := "int") (by decide) ⟨_, ho, rfl⟩ (fun s' => typeIs_int s' 1 t) noFill_tuple_mul F.fills_int_mul F.slot_int_rmul repeat_tuple F.slot_int_index.lookup
      (call_meets F.slot_int_rmul (typeIs_int s 1 t) F.entry_int_rmul (F.args_int_rmul_2 _ _) (int_rmul_tuple 1 t l its.toArray n dd sl)
        ⟨ho, rfl, ⟨_, ho, rfl⟩, call_meets F.slot_tuple_mul ⟨_, ho, rfl⟩ F.entry_tuple_mul (F.args_tuple_mul_2 _ _) (tuple_mul1 l its.toArray n dd sl t) ⟨ho, ?_⟩⟩)
    exact ⟨.ref l, H, I, rfl, q⟩
  · refine wpAny_binaryOp_repeat_ref (T := "tuple") (U := "int") (by decide) ⟨_, ho, rfl⟩ (fun s' => typeIs_int s' 0 t) noFill_tuple_mul F.fills_int_mul F.slot_int_rmul repeat_tuple F.slot_int_index.lookup
      (call_meets F.slot_int_rmul (typeIs_int s 0 t) F.entry_int_rmul (F.args_int_rmul_2 _ _) (int_rmul_tuple 0 t l its.toArray n dd sl)
        ⟨ho, rfl, ⟨_, ho, rfl⟩, call_meets F.slot_tuple_mul ⟨_, ho, rfl⟩ F.entry_tuple_mul (F.args_tuple_mul_2 _ _) (tuple_mul0 l its.toArray n dd sl t hi) ⟨ho, ?_⟩⟩)
    refine ⟨.ref s.heap.objs.size, _, I.laid (t' := s.toks) (o := .tup []) (fun b ob q => Heap.get?_push_of_some _ q) (Nat.le_refl _) ?_, rfl, q _ (I.hok.fresh (Nat.le_refl _))⟩
    exact ⟨by rw [sizeLine_eq]; decide, [], .nil, ⟨_, Heap.get?_push_size _ rfl, rfl, 0, rfl⟩⟩
section
variable {X : Cx} {Γ : List Sl} {a b : Expr} {ds : List PyData} {pos : Pos}
theorem e_repT {n : Int} (ha : E X Γ a (.tuple ds)) (hb : E X Γ b (.int n)) (hne : ds ≠ []) (h0 : 0 ≤ n) (h1 : n ≤ 1000) (hl : ds.length ≤ 1000) : E X Γ (.BinOp a .Mult b pos) (.tuple (List.replicate n.toNat ds).flatten) := by
  by_cases h2 : 2 ≤ n
  · refine e_bin op_repT ha hb fun G H v u e g1 g2 Q hQ => ?_
    cases g2
    cases g1 with
    | @tup l xs _ hs hd =>
      refine ⟨_, n, xs, rfl, rfl, ex_t e hs, fun z => hne (by have := dpa_len hd; rw [z] at this; exact List.eq_nil_of_length_eq_zero this.symm), h2, h1, by rw [dpa_len hd]; exact hl, fun p hp => hQ _ _ _ (Gr.new e hp) (.tup (st_of upd_same) (dp_exs (Gr.new (o := .tup (List.replicate n.toNat xs).flatten) e hp).gg _ _ (dpa_reps hd _)))⟩
  · refine e_bin op_repS ha hb fun G H v u e g1 g2 Q hQ => ?_
    cases g2
    cases g1 with
    | @tup l xs _ hs hd =>
      refine ⟨_, n, xs, rfl, rfl, ex_t e hs, fun z => hne (by have := dpa_len hd; rw [z] at this; exact List.eq_nil_of_length_eq_zero this.symm), ?_⟩
      by_cases h3 : n = 1
      · subst h3
        refine .inl ⟨rfl, hQ _ G H (Gr.refl e) ?_⟩
        simpa using Dt.tup hs hd
      · have h4 : n = 0 := by omega
        subst h4
        exact .inr ⟨rfl, fun p hp => hQ _ _ _ (Gr.new e hp) (.tup (st_of upd_same) .nil)⟩
end
end Z
set_option Elab.async false
set_option linter.all false
set_option maxRecDepth 100000
set_option maxHeartbeats 400000
namespace Z
open PySem PySem.Spec PyProof.Rows L2 Evl
theorem star_tup {elts rest : List Expr} {k : Nat} {pos : Pos} {env : Env} : starEach (.Tuple elts k pos :: rest) env = (false, eval (.Tuple elts k pos) env) :: starEach rest env := by rfl
theorem star_con {c : Const} {rest : List Expr} {k : Nat} {pos : Pos} {env : Env} : starEach (.Constant c k pos :: rest) env = (false, eval (.Constant c k pos) env) :: starEach rest env := by rfl
section
variable {X : Cx} {Γ : List Sl} {elts rest es : List Expr} {k : Nat} {pos : Pos} {d : PyData} {ds : List PyData}
theorem as_tup (h : E X Γ (.Tuple elts k pos) d) (hr : As X Γ es ds) : As X Γ (.Tuple elts k pos :: es) (d :: ds) := as_cons h hr star_tup
theorem pair1 {a : Str} {j k k2 : Nat} {p1 p2 p3 : Pos} : E X Γ (.Tuple [.Constant (.str a) j p1, .Tuple [] k p2] k2 p3) (.tuple [.str a, .tuple []]) := tu2 e_str tu0 star_con star_tup
theorem pair2 {a b : Str} {j j2 k k2 : Nat} {p1 p2 p3 p4 : Pos} : E X Γ (.Tuple [.Constant (.str a) j p1, .Tuple [.Constant (.str b) j2 p4] k p2] k2 p3) (.tuple [.str a, .tuple [.str b]]) := tu2 e_str (tu1 e_str star_con) star_con star_tup
theorem pair3 {a b c : Str} {j j2 j3 k k2 : Nat} {p1 p2 p3 p4 p5 : Pos} : E X Γ (.Tuple [.Constant (.str a) j p1, .Tuple [.Constant (.str b) j2 p4, .Constant (.str c) j3 p5] k p2] k2 p3) (.tuple [.str a, .tuple [.str b, .str c]]) := tu2 e_str (tu2 e_str e_str star_con star_con) star_con star_tup
end
end Z
set_option Elab.async false
set_option linter.all false
set_option maxHeartbeats 200000
namespace Z
open PySem PySem.Spec PyProof.Rows L2 Evl
section
variable {X : Cx} {Γ : List Sl} {p1 p2 p3 p4 p5 p6 p7 p8 p9 p10 p11 p12 p13 p14 p15 p16 p17 p18 p19 p20 p21 pz : Pos}
theorem prC : E X Γ (.Tuple [.Constant (.str "crate") 0 p8, .Tuple [.Constant (.str "crate") 0 p9] 0 p10] 0 p11) (.tuple [.str "crate", .tuple [.str "crate"]]) := pair2 (a := "crate") (b := "crate")
theorem kq5 : As X Γ [.Tuple [.Constant (.str "crate") 0 p17, .Tuple [.Constant (.str "folio") 0 p18, .Constant (.str "crate") 0 p19] 0 p20] 0 p21] [.tuple [.str "crate", .tuple [.str "folio", .str "crate"]]] := as_tup pair3 as_nil
theorem kq4 : As X Γ [.Tuple [.Constant (.str "folio") 0 p12, .Tuple [.Constant (.str "folio") 0 p13, .Constant (.str "crate") 0 p14] 0 p15] 0 p16, .Tuple [.Constant (.str "crate") 0 p17, .Tuple [.Constant (.str "folio") 0 p18, .Constant (.str "crate") 0 p19] 0 p20] 0 p21] [.tuple [.str "folio", .tuple [.str "folio", .str "crate"]], .tuple [.str "crate", .tuple [.str "folio", .str "crate"]]] := as_tup pair3 kq5
theorem kq3 : As X Γ [.Tuple [.Constant (.str "crate") 0 p8, .Tuple [.Constant (.str "crate") 0 p9] 0 p10] 0 p11, .Tuple [.Constant (.str "folio") 0 p12, .Tuple [.Constant (.str "folio") 0 p13, .Constant (.str "crate") 0 p14] 0 p15] 0 p16, .Tuple [.Constant (.str "crate") 0 p17, .Tuple [.Constant (.str "folio") 0 p18, .Constant (.str "crate") 0 p19] 0 p20] 0 p21] [.tuple [.str "crate", .tuple [.str "crate"]], .tuple [.str "folio", .tuple [.str "folio", .str "crate"]], .tuple [.str "crate", .tuple [.str "folio", .str "crate"]]] := by
  refine as_tup ?_ ?_
  · exact prC
  · exact kq4
theorem kq2 : As X Γ [.Tuple [.Constant (.str "folio") 0 p4, .Tuple [.Constant (.str "folio") 0 p5] 0 p6] 0 p7, .Tuple [.Constant (.str "crate") 0 p8, .Tuple [.Constant (.str "crate") 0 p9] 0 p10] 0 p11, .Tuple [.Constant (.str "folio") 0 p12, .Tuple [.Constant (.str "folio") 0 p13, .Constant (.str "crate") 0 p14] 0 p15] 0 p16, .Tuple [.Constant (.str "crate") 0 p17, .Tuple [.Constant (.str "folio") 0 p18, .Constant (.str "crate") 0 p19] 0 p20] 0 p21] [.tuple [.str "folio", .tuple [.str "folio"]], .tuple [.str "crate", .tuple [.str "crate"]], .tuple [.str "folio", .tuple [.str "folio", .str "crate"]], .tuple [.str "crate", .tuple [.str "folio", .str "crate"]]] := by
  refine as_tup ?_ ?_
  · exact pair2
  · exact kq3
theorem kqE : Ef X Γ (.List [.Tuple [.Constant (.str "") 0 p1, .Tuple [] 0 p2] 0 p3, .Tuple [.Constant (.str "folio") 0 p4, .Tuple [.Constant (.str "folio") 0 p5] 0 p6] 0 p7, .Tuple [.Constant (.str "crate") 0 p8, .Tuple [.Constant (.str "crate") 0 p9] 0 p10] 0 p11, .Tuple [.Constant (.str "folio") 0 p12, .Tuple [.Constant (.str "folio") 0 p13, .Constant (.str "crate") 0 p14] 0 p15] 0 p16, .Tuple [.Constant (.str "crate") 0 p17, .Tuple [.Constant (.str "folio") 0 p18, .Constant (.str "crate") 0 p19] 0 p20] 0 p21] pz)
      [.tuple [.str "", .tuple []], .tuple [.str "folio", .tuple [.str "folio"]], .tuple [.str "crate", .tuple [.str "crate"]], .tuple [.str "folio", .tuple [.str "folio", .str "crate"]], .tuple [.str "crate", .tuple [.str "folio", .str "crate"]]] := by
  refine ef_list ?_ ?_
  · refine as_tup ?_ ?_
    · exact pair1
    · exact @kq2 X Γ p4 p5 p6 p7 p8 p9 p10 p11 p12 p13 p14 p15 p16 p17 p18 p19 p20 p21
  · show 5 ≤ 100000
    decide
theorem kr3 : As X Γ [.Tuple [.Constant (.str "crate") 0 p4] 0 p5, .Tuple [.Constant (.str "folio") 0 p6, .Constant (.str "crate") 0 p7] 0 p8] [.tuple [.str "crate"], .tuple [.str "folio", .str "crate"]] := by
  refine as_tup ?_ ?_
  · exact tu1 e_str star_con
  · refine as_tup ?_ ?_
    · exact tu2 e_str e_str star_con star_con
    · exact as_nil
theorem kr2 : As X Γ [.Tuple [.Constant (.str "folio") 0 p2] 0 p3, .Tuple [.Constant (.str "crate") 0 p4] 0 p5, .Tuple [.Constant (.str "folio") 0 p6, .Constant (.str "crate") 0 p7] 0 p8] [.tuple [.str "folio"], .tuple [.str "crate"], .tuple [.str "folio", .str "crate"]] := by
  refine as_tup ?_ ?_
  · exact tu1 e_str star_con
  · exact @kr3 X Γ p4 p5 p6 p7 p8
theorem krE : E X Γ (.List [.Tuple [] 0 p1, .Tuple [.Constant (.str "folio") 0 p2] 0 p3, .Tuple [.Constant (.str "crate") 0 p4] 0 p5, .Tuple [.Constant (.str "folio") 0 p6, .Constant (.str "crate") 0 p7] 0 p8] p9) (.list [.tuple [], .tuple [.str "folio"], .tuple [.str "crate"], .tuple [.str "folio", .str "crate"]]) := by
  refine e_list ?_ ?_
  · refine as_tup ?_ ?_
    · exact tu0
    · exact @kr2 X Γ p2 p3 p4 p5 p6 p7 p8
  · show 4 ≤ 100000
    decide
end
end Z
set_option Elab.async false
set_option linter.all false
set_option maxRecDepth 100000
set_option maxHeartbeats 600000
namespace Z
open PySem PySem.Spec PyProof.Rows L2 Evl
def minI (a b : Int) : Int := if b < a then b else a
def maxI (a b : Int) : Int := if b > a then b else a
def numT (gr n : Int) : List Int := [minI gr (maxI 0 (n - 1)), minI gr n, minI gr (n + 1)]
def numLS (g : NF) (gr : Int) (acc : List Int) (t : Tm) : List Int := match t.body with
  | .num f _ n => if f = g then acc ++ numT gr n else acc
  | _ => acc
def srt (l : List Int) : List Int := l.mergeSort (fun a b => decide (a ≤ b))
def numL (ts : List Tm) (g : NF) (gr : Int) : List Int := srt (ts.foldl (numLS g gr) [0, gr])
theorem srt_one (l : List Int) : ∀ m : List Int, m.Perm l → m.Pairwise (· ≤ ·) → m = srt l := fun m h1 h2 => sorted_one (h1.trans (List.mergeSort_perm _ _).symm) h2 (by
  have := List.pairwise_mergeSort (le := fun a b : Int => decide (a ≤ b)) (fun a b c h1 h2 => by simp at *; omega) (fun a b => by simp; omega) l
  exact this.imp fun h => by simpa using h)
theorem numLS_len (g : NF) (gr : Int) (acc : List Int) (t : Tm) : (numLS g gr acc t).length ≤ acc.length + 3 := by
  unfold numLS
  split
  · split
    · simp [numT]
    · omega
  · omega
def kpB : List (Kd × List Kd) := [(.no, []), (.folio, [.folio]), (.crate, [.crate]), (.folio, [.folio, .crate]), (.crate, [.folio, .crate])]
def kpR : List (List Kd) := [[], [.folio], [.crate], [.folio, .crate]]
def kpF (f : Kd) : List (Kd × List Kd) := kpR.map fun r => (f, f :: r)
def kpL : List (Kd × List Kd) := kpB ++ [Kd.still, .picture, .film, .sheet].flatMap kpF
section
variable {P : Program} {w : World} {K : PySem.W.Frag} {mg : Str → Option Value} {base : Heap}
theorem e_minI {X : Cx} {N : List Str} {sc : Scope} {k : Nat} {Γ : List Sl} {a b : Expr} {pos p : Pos} (F : XF X P w K mg base N sc k) (bn : BN mg) {i j : Int} (ha : E X Γ a (.int i)) (hb : E X Γ b (.int j)) (hg : glB sc "min" = true) (he : starEach [a, b] X.env = (false, eval a X.env) :: starEach [b] X.env := by rfl) (he2 : starEach [b] X.env = [(false, eval b X.env)] := by rfl) (hpl : (backTo pos (starEach [b] X.env)).any (·.1) = false := by rfl) :
    E X Γ (.Call (.Name "min" p) [a, b] [] pos) (.int (minI i j)) := e_min2 F bn ha hb hg he he2 hpl
theorem e_maxI {X : Cx} {N : List Str} {sc : Scope} {k : Nat} {Γ : List Sl} {a b : Expr} {pos p : Pos} (F : XF X P w K mg base N sc k) (bn : BN mg) {i j : Int} (ha : E X Γ a (.int i)) (hb : E X Γ b (.int j)) (hg : glB sc "max" = true) (he : starEach [a, b] X.env = (false, eval a X.env) :: starEach [b] X.env := by rfl) (he2 : starEach [b] X.env = [(false, eval b X.env)] := by rfl) (hpl : (backTo pos (starEach [b] X.env)).any (·.1) = false := by rfl) :
    E X Γ (.Call (.Name "max" p) [a, b] [] pos) (.int (maxI i j)) := e_max2 F bn ha hb hg he he2 hpl
def d_law_numbers : List PyData → PyData → Prop := fun ds r => ∃ (ts : List Tm) (g : NF) (gr : Int), ts.length ≤ 100 ∧ ds = [.list (ts.map dT), .str g.str, .int gr] ∧ r = .list ((numL ts g gr).map .int)
theorem w_law_numbers {f : Addr} {fd : FuncData} (Fn : FnP K "_law_numbers" s_law_numbers f fd) (hm : mg "_law_numbers" = some (.ref f)) (bn : BN mg) : FnF P w K mg base "_law_numbers" 1 d_law_numbers := by
  refine fn_mk Fn hm c_law_numbers (fun ds r ⟨_, _, _, _, h, _⟩ => by rw [h]; rfl) (fun _ _ _ _ _ _ us hl => match us, hl with | [_, _, _], _ => rfl) fun X F xd ds r ⟨ts, g, gr, hl, h, hr⟩ => ?_
  subst h hr
  refine set_ F xd 3 (d := .list (([0, gr] : List Int).map .int)) (li2 e_int (nm F 2)) ?_
  refine forN2 F xd 4 5 ts (fun t => .bool t.neg) (fun t => dB t.body) (src_list (ds := ts.map dT) (nm F 0)) (fun n Γ' => ∃ s4 s5, Γ' = [.dat (.list (ts.map dT)), .dat (.str g.str), .dat (.int gr), .dat (.list (((ts.take n).foldl (numLS g gr) [0, gr]).map .int)), s4, s5]) ⟨.un, .un, rfl⟩ ?_ ?_
  · rintro n t Γ' ht ⟨s4, s5, rfl⟩
    have hb : ((ts.take n).foldl (numLS g gr) [0, gr]).length ≤ 302 := by
      have := fold_len (numLS g gr) (fun _ => 3) (numLS_len g gr) (ts.take n) [0, gr]
      rw [sum_const, List.length_take] at this
      simp at this
      omega
    rw [take_fold (numLS g gr) _ ht]
    generalize (ts.take n).foldl (numLS g gr) [0, gr] = ks at hb ⊢
    obtain ⟨ng, b⟩ := t
    by_cases hnum : ∃ f s m, b = .num f s m
    · obtain ⟨f, s, m, rfl⟩ := hnum
      have eb : ∀ {pos}, E X [.dat (.list (ts.map dT)), .dat (.str g.str), .dat (.int gr), .dat (.list (ks.map .int)), .dat (.bool ng), .dat (dB (.num f s m))] (.Name "_law_body_here" pos) (.tuple [.str f.str, .str s.str, .int m]) := fun {pos} => nm F 5
      refine when_ (t_eq (e_ixT eb e_int rfl) (nm F 1) (.str _ _)) (fun h => ?_) (fun h => ?_)
      · rw [nfd] at h
        have hfg : f = g := of_decide_eq_true h
        subst hfg
        have e : numLS f gr ks ⟨ng, .num f s m⟩ = ks ++ numT gr m := by simp [numLS]
        rw [e, List.map_append]
        refine set_ F xd 3 (d := .list (ks.map .int ++ [.int (minI gr (maxI 0 (m - 1))), .int (minI gr m), .int (minI gr (m + 1))])) ?_ (ss_nil (ss_nil ⟨_, _, rfl⟩))
        exact e_catL (nm F 3) (e_list (as_cons (e_minI F bn (nm F 2) (e_maxI F bn e_int (e_sub (e_ixT eb e_int rfl) e_int) rfl) rfl) (as_cons (e_minI F bn (nm F 2) (e_ixT eb e_int rfl) rfl) (as_cons (e_minI F bn (nm F 2) (e_add (e_ixT eb e_int rfl) e_int) rfl) as_nil))) (by simp)) (by simp; omega)
      · rw [nfd] at h
        have hfg : ¬ f = g := of_decide_eq_false h
        have e : numLS g gr ks ⟨ng, .num f s m⟩ = ks := by simp [numLS, hfg]
        rw [e]
        exact ss_nil ⟨_, _, rfl⟩
    · have hw := nf_ne g b (fun f s m e => hnum ⟨f, s, m, e⟩)
      have e : numLS g gr ks ⟨ng, b⟩ = ks := by
        cases b with
        | num f s m => exact absurd ⟨f, s, m, rfl⟩ hnum
        | _ => rfl
      rw [e]
      obtain ⟨x, rest, hb'⟩ := dB_shape b
      rw [hb']
      exact when_ (v := false) (t_cast (t_eq (e_ixT (nm F 5) e_int at0) (nm F 1) (.str _ _)) (decide_eq_false hw)) (fun h => by cases h) (fun _ => ss_nil ⟨_, _, rfl⟩)
  · rintro Γ' ⟨s4, s5, rfl⟩
    rw [List.take_length]
    exact ret (e_sorted F bn (ns := ts.foldl (numLS g gr) [0, gr]) (ms := numL ts g gr) (nm F 3) (srt_one _) rfl) rfl
def d_law_kind_pairs : List PyData → PyData → Prop := fun ds r => ds = [] ∧ r = .list (kpL.map dKK)
theorem w_law_kind_pairs {f : Addr} {fd : FuncData} (Fn : FnP K "_law_kind_pairs" s_law_kind_pairs f fd) (hm : mg "_law_kind_pairs" = some (.ref f)) (f1 : FnF P w K mg base "_law_kinds" 1 d_law_kinds) : FnF P w K mg base "_law_kind_pairs" 2 d_law_kind_pairs := by
  refine fn_mk Fn hm c_law_kind_pairs (fun ds r ⟨h, _⟩ => by rw [h]; rfl) (fun _ _ _ _ _ _ us hl => match us, hl with | [], _ => rfl) fun X F xd ds r ⟨h, hr⟩ => ?_
  subst h hr
  refine setF F xd 0 (ds := [.tuple [.str "", .tuple []], .tuple [.str "folio", .tuple [.str "folio"]], .tuple [.str "crate", .tuple [.str "crate"]], .tuple [.str "folio", .tuple [.str "folio", .str "crate"]], .tuple [.str "crate", .tuple [.str "folio", .str "crate"]]]) ?_ ?_
  · exact @kqE X _ ⟨408, 19, 408, 21⟩ ⟨408, 23, 408, 25⟩ ⟨408, 18, 408, 26⟩ ⟨408, 29, 408, 36⟩ ⟨408, 39, 408, 46⟩ ⟨408, 38, 408, 48⟩ ⟨408, 28, 408, 49⟩ ⟨408, 52, 408, 59⟩ ⟨408, 62, 408, 69⟩ ⟨408, 61, 408, 71⟩ ⟨408, 51, 408, 72⟩ ⟨408, 75, 408, 82⟩ ⟨408, 85, 408, 92⟩ ⟨408, 94, 408, 101⟩ ⟨408, 84, 408, 102⟩ ⟨408, 74, 408, 103⟩ ⟨408, 106, 408, 113⟩ ⟨408, 116, 408, 123⟩ ⟨408, 125, 408, 132⟩ ⟨408, 115, 408, 133⟩ ⟨408, 105, 408, 134⟩ ⟨408, 17, 408, 135⟩
  have e0 : ([.tuple [.str "", .tuple []], .tuple [.str "folio", .tuple [.str "folio"]], .tuple [.str "crate", .tuple [.str "crate"]], .tuple [.str "folio", .tuple [.str "folio", .str "crate"]], .tuple [.str "crate", .tuple [.str "folio", .str "crate"]]] : List PyData) = kpB.map dKK := rfl
  rw [e0]
  refine forN F xd 1 [Kd.still, .picture, .film, .sheet] (fun k => .str k.str) (by
    have e : (([Kd.still, .picture, .film, .sheet] : List Kd).map fun k => PyData.str k.str) = cutD (([Kd.still, .picture, .film, .sheet, .folio, .crate] : List Kd).map fun k => PyData.str k.str) none (some 4) := by
      have := cut_to (([Kd.still, .picture, .film, .sheet, .folio, .crate] : List Kd).map fun k => PyData.str k.str) 4
      exact this.symm
    rw [e]
    exact src_list (e_slL (ca0 F f1 ⟨rfl, rfl⟩) .none (.some e_int))) (fun n Γ' => ∃ s1 s2, Γ' = [.ob (oL X.K ((kpB ++ (([Kd.still, .picture, .film, .sheet] : List Kd).take n).flatMap kpF).map dKK)), s1, s2]) ⟨.un, .un, by simp⟩ ?_ ?_
  · rintro n f Γ' hf ⟨s1, s2, rfl⟩
    have hl1 := fm_take_len kpF 4 (fun _ => by simp [kpF, kpR]) [Kd.still, .picture, .film, .sheet] n
    have hn : n < 4 := (List.getElem?_eq_some_iff.mp hf).1
    rw [fm_take kpF hf, ← List.append_assoc]
    have hacc : (kpB ++ (([Kd.still, .picture, .film, .sheet] : List Kd).take n).flatMap kpF).length ≤ 100 := by
      rw [List.length_append]
      have : kpB.length = 5 := rfl
      omega
    generalize kpB ++ (([Kd.still, .picture, .film, .sheet] : List Kd).take n).flatMap kpF = acc at hacc ⊢
    have er : kpR.map dKs = [.tuple [], .tuple [.str "folio"], .tuple [.str "crate"], .tuple [.str "folio", .str "crate"]] := rfl
    refine forN F xd 2 kpR dKs (er ▸ src_list (@krE X _ ⟨410, 26, 410, 28⟩ ⟨410, 31, 410, 38⟩ ⟨410, 30, 410, 40⟩ ⟨410, 43, 410, 50⟩ ⟨410, 42, 410, 52⟩ ⟨410, 55, 410, 62⟩ ⟨410, 64, 410, 71⟩ ⟨410, 54, 410, 72⟩ ⟨410, 25, 410, 73⟩)) (fun m Γ' => ∃ s2, Γ' = [.ob (oL X.K ((acc ++ (kpR.take m).map fun r => (f, f :: r)).map dKK)), .dat (.str f.str), s2]) ⟨s2, by rw [List.take_zero, List.map_nil, List.append_nil]; rfl⟩ ?_ ?_
    · rintro m r Γ' hr ⟨s2, rfl⟩
      have hm4 : m < 4 := (List.getElem?_eq_some_iff.mp hr).1
      have e : (acc ++ (kpR.take (m + 1)).map fun r => (f, f :: r)).map dKK = (acc ++ (kpR.take m).map fun r => (f, f :: r)).map dKK ++ [dKK (f, f :: r)] := by
        rw [take_snoc hr]
        simp
      have hrl : r.length ≤ 10 := by
        have : ∀ r ∈ kpR, r.length ≤ 10 := by decide
        exact this r (List.mem_of_getElem? hr)
      rw [e]
      exact app F 0 (ds := (acc ++ (kpR.take m).map fun r => (f, f :: r)).map dKK) (d := dKK (f, f :: r)) (tu2 (nm F 1) (e_catT (tu1 (nm F 1)) (nm F 2) (by simp; omega))) (ss_nil ⟨_, rfl⟩) (by simp; omega)
    · rintro Γ' ⟨s2, rfl⟩
      rw [List.take_length]
      exact ss_nil ⟨_, _, rfl⟩
  · rintro Γ' ⟨s1, s2, rfl⟩
    exact ss_freeze (i := 0) rfl (ret (nm F 0) rfl)
end
/-! ### _law_acts_lists -/
def namA (ts : List Tm) : List Ac := ts.filterMap fun t => match t.body with | .act a => some a | _ => none
def kinA (ts : List Tm) : List Ac := (acL6.filter fun a => decide (a ∈ namA ts)) ++ (acL6.filter fun a => !decide (a ∈ namA ts)).take 1
def bitN (b k : Nat) : Bool := decide (Builtin.bitAnd ((1 + (b : Int)) / 2 ^ ((0 + (k : Int))).toNat) 1 = 1)
def somA (ks : List Ac) (b : Nat) : List Ac := ((List.range ks.length).filter (bitN b)).map fun k => ks.getD k .open_
def repA (s : List Ac) (n : Int) : List Ac := s ++ (List.replicate (n - s.length).toNat (s.take 1)).flatten
def actB (ts : List Tm) (s : List Ac) : List (List Ac) := ((numL ts .acts 102 ++ [(s.length : Int)]).filter fun n => decide ((s.length : Int) ≤ n)).map (repA s)
def actL (ts : List Tm) : List (List Ac) := [] :: (List.range (2 ^ (kinA ts).length - 1)).flatMap fun b => actB ts (somA (kinA ts) b)
end Z
set_option Elab.async false
set_option linter.all false
set_option maxRecDepth 100000
set_option maxHeartbeats 1000000
namespace Z
open PySem PySem.Spec PyProof.Rows L2 Evl
def termsM (ps : List (List Rl)) : List Tm := ps.flatMap fun p => p.flatMap fun r => r.ts
def decGo (truth : List Bool) : List Rl → Nat → Nat → Int
  | [], _, _ => -1
  | r :: rs, at_, k => if false ∉ (truth.drop at_).take r.ts.length then (k : Int) else decGo truth rs (at_ + r.ts.length) (k + 1)
section
variable {P : Program} {w : World} {K : PySem.W.Frag} {mg : Str → Option Value} {base : Heap}
def d_law_is_integer : List PyData → PyData → Prop := fun ds r => ∃ i : Int, ds = [.int i] ∧ r = .bool true
theorem w_law_is_integer {f : Addr} {fd : FuncData} (Fn : FnP K "_law_is_integer" s_law_is_integer f fd) (hm : mg "_law_is_integer" = some (.ref f)) (bn : BN mg) : FnF P w K mg base "_law_is_integer" 1 d_law_is_integer := by
  refine fn_mk Fn hm c_law_is_integer (fun ds r ⟨_, h, _⟩ => by rw [h]; rfl) (fun _ _ _ _ _ _ us hl => match us, hl with | [_], _ => rfl) fun X F xd ds r ⟨i, h, hr⟩ => ?_
  subst h hr
  have e0 : ∀ {pos}, E X [.dat (.int i)] (.Name "_law_actual" pos) (.int i) := fun {_} => nm F 0
  refine ret (d := .bool true) ?_ rfl
  exact e_and2 (e_isiInt F bn e0 rfl rfl rfl) fun _ => e_not (v := false) (e_isiBool F bn e0 rfl rfl rfl)
def d_law_verdict : List PyData → PyData → Prop := fun ds r => ∃ (p : List Rl) (i : Int), i < p.length ∧ ds = [dP p, .int i] ∧ r = .str (vdM p i).str
theorem w_law_verdict {f : Addr} {fd : FuncData} (Fn : FnP K "_law_verdict" s_law_verdict f fd) (hm : mg "_law_verdict" = some (.ref f)) : FnF P w K mg base "_law_verdict" 1 d_law_verdict := by
  refine fn_mk Fn hm c_law_verdict (fun ds r ⟨p, i, _, h, _⟩ => by rw [h]; rfl) (fun _ _ _ _ _ _ us hl => match us, hl with | [_, _], _ => rfl) fun X F xd ds r ⟨p, i, hi, h, hr⟩ => ?_
  subst h hr
  refine when_ (t_lt (nm F 1) e_int) (fun h => ret e_str ?_) (fun h => ?_)
  · have h' : i < 0 := of_decide_eq_true h
    simp [vdM, h']
    rfl
  · have h' : ¬ i < 0 := of_decide_eq_false h
    have hl : i.toNat < p.length := by omega
    have hg : p[i.toNat]? = some p[i.toNat] := List.getElem?_eq_getElem hl
    have : vdM p i = p[i.toNat].v := by simp [vdM, h', hg]
    rw [this]
    refine ret (e_ixT (ds := [.str p[i.toNat].v.str, .tuple (p[i.toNat].ts.map dT)]) (e_ixT (ds := p.map dR) (nm F 0) (nm F 1) ?_) e_int rfl) rfl
    have hn := atI_nn (xs := p.map dR) (i := i.toNat) (d := dR p[i.toNat]) (by rw [List.getElem?_map, hg]; rfl)
    rw [show ((i.toNat : Nat) : Int) = i by omega] at hn
    exact hn
def d_law_all_terms : List PyData → PyData → Prop := fun ds r => ∃ ps : List (List Rl), ps.length ≤ 4 ∧ (∀ p ∈ ps, small p) ∧ ds = [.list (ps.map dP)] ∧ r = .list ((termsM ps).map dT)
theorem w_law_all_terms {f : Addr} {fd : FuncData} (Fn : FnP K "_law_all_terms" s_law_all_terms f fd) (hm : mg "_law_all_terms" = some (.ref f)) (bn : BN mg) : FnF P w K mg base "_law_all_terms" 1 d_law_all_terms := by
  refine fn_mk Fn hm c_law_all_terms (fun ds r ⟨_, _, _, h, _⟩ => by rw [h]; rfl) (fun _ _ _ _ _ _ us hl => match us, hl with | [_], _ => rfl) fun X F xd ds r ⟨ps, hps, sm, h, hr⟩ => ?_
  subst h hr
  have bp : ∀ p ∈ ps, ∀ m, ((p.take m).flatMap fun r => r.ts).length ≤ 12 := fun p hp m => by
    have h1 := nT_small (p.take m) fun r hr => (sm p hp).t r (List.mem_of_mem_take hr)
    have h2 := (sm p hp).r
    rw [List.length_flatMap]
    have : (p.take m).length ≤ 4 := by rw [List.length_take]; omega
    omega
  have bps : ∀ n, ((ps.take n).flatMap fun p => p.flatMap fun r => r.ts).length ≤ 48 := fun n => by
    have gen : ∀ l : List (List Rl), (∀ p ∈ l, p ∈ ps) → (l.flatMap fun p => p.flatMap fun r => r.ts).length ≤ 12 * l.length := fun l => by
      induction l with
      | nil => simp
      | cons p l ih =>
        intro hl
        have h1 := ih fun q hq => hl q (by simp [hq])
        have h2 := bp p (hl p (by simp)) p.length
        rw [List.take_length] at h2
        rw [List.flatMap_cons, List.length_append, List.length_cons]
        omega
    have := gen (ps.take n) fun p hp => List.mem_of_mem_take hp
    rw [List.length_take] at this
    omega
  refine set_ F xd 1 (d := .list (([] : List Tm).map dT)) li0 ?_
  refine forN F xd 2 ps dP (src_list (nm F 0)) (fun n Γ' => ∃ s2 s3 s4, Γ' = [.dat (.list (ps.map dP)), .dat (.list (((ps.take n).flatMap fun p => p.flatMap fun r => r.ts).map dT)), s2, s3, s4]) ⟨.un, .un, .un, rfl⟩ ?_ ?_
  · rintro n p Γ' hp ⟨s2, s3, s4, rfl⟩
    have hpm := List.mem_of_getElem? hp
    have hb := bps n
    rw [fm_take _ hp]
    generalize (ps.take n).flatMap (fun p => p.flatMap fun r => r.ts) = acc at hb ⊢
    refine forN2 F xd 3 4 p (fun r => .str r.v.str) (fun r => .tuple (r.ts.map dT)) (src_tup (ds := p.map dR) (nm F 2)) (fun m Γ' => ∃ s3 s4, Γ' = [.dat (.list (ps.map dP)), .dat (.list ((acc ++ (p.take m).flatMap fun r => r.ts).map dT)), .dat (dP p), s3, s4]) ⟨s3, s4, by simp⟩ ?_ ?_
    · rintro m r Γ' hr ⟨s3, s4, rfl⟩
      have hbm := bp p hpm m
      have ht := (sm p hpm).t r (List.mem_of_getElem? hr)
      rw [fm_take _ hr, ← List.append_assoc]
      have e : ((acc ++ (p.take m).flatMap fun r => r.ts) ++ r.ts).map dT = (acc ++ (p.take m).flatMap fun r => r.ts).map dT ++ r.ts.map dT := List.map_append
      rw [e]
      refine set_ F xd 1 (d := .list ((acc ++ (p.take m).flatMap fun r => r.ts).map dT ++ r.ts.map dT)) ?_ (ss_nil ⟨_, _, rfl⟩)
      exact e_catL (nm F 1) (e_listT F bn (nm F 4) rfl) (by simp only [List.length_map, List.length_append]; omega)
    · rintro Γ' ⟨s3, s4, rfl⟩
      rw [List.take_length]
      exact ss_nil ⟨_, _, _, rfl⟩
  · rintro Γ' ⟨s2, s3, s4, rfl⟩
    rw [List.take_length]
    exact ret (nm F 1) rfl
end
end Z
set_option Elab.async false
set_option linter.all false
set_option maxRecDepth 100000
set_option maxHeartbeats 1000000
namespace Z
open PySem PySem.Spec PyProof.Rows L2 Evl
/-! ### _law_decider -/
def atK (p : List Rl) (f n : Nat) : Nat := f + ((p.take n).map fun r => r.ts.length).sum
def segK (p : List Rl) (truth : List Bool) (f k : Nat) : List Bool := (truth.drop (atK p f k)).take ((p[k]?.map fun r => r.ts.length).getD 0)
def decM (p : List Rl) (truth : List Bool) (f : Nat) : Int := match (List.range p.length).find? fun k => decide (false ∉ segK p truth f k) with
  | some k => (k : Nat)
  | none => -1
theorem cut_mid (ds : List PyData) (a c : Nat) : cutD ds (some (a : Int)) (some ((a + c : Nat) : Int)) = (ds.drop a).take c := by
  unfold cutD
  rw [HT.sIx_nat, HT.sIx_nat]
  by_cases h : a ≤ ds.length
  · rw [Nat.min_eq_left h]
    by_cases h2 : a + c ≤ ds.length
    · rw [Nat.min_eq_left h2, show a + c - a = c by omega]
    · rw [Nat.min_eq_right (by omega), List.take_of_length_le (by simp), List.take_of_length_le (by simp; omega)]
  · rw [Nat.min_eq_right (by omega), List.drop_eq_nil_of_le (by omega), List.drop_eq_nil_of_le (by omega)]
    simp
theorem inV_bools (b : Bool) (l : List Bool) : inV (.bl b) (l.map V.bl) = decide (b ∈ l) := by
  induction l with
  | nil => rfl
  | cons a l ih =>
    have e : inV (.bl b) ((a :: l).map V.bl) = (eqV (.bl a) (.bl b) || inV (.bl b) (l.map V.bl)) := rfl
    rw [e, ih]
    cases a <;> cases b <;> simp [eqV]
section
variable {P : Program} {w : World} {K : PySem.W.Frag} {mg : Str → Option Value} {base : Heap}
def d_law_decider : List PyData → PyData → Prop := fun ds r => ∃ (p : List Rl) (truth : List Bool) (f : Nat), small p ∧ truth.length ≤ 1000 ∧ ds = [dP p, .list (truth.map .bool), dN f] ∧ r = .int (decM p truth f)
theorem w_law_decider {f : Addr} {fd : FuncData} (Fn : FnP K "_law_decider" s_law_decider f fd) (hm : mg "_law_decider" = some (.ref f)) (bn : BN mg) : FnF P w K mg base "_law_decider" 1 d_law_decider := by
  refine fn_mk Fn hm c_law_decider (fun ds r ⟨_, _, _, _, _, h, _⟩ => by rw [h]; rfl) (fun _ _ _ _ _ _ us hl => match us, hl with | [_, _, _], _ => rfl) fun X F xd ds r ⟨p, truth, f0, sm, ht, h, hr⟩ => ?_
  subst h hr
  have hr4 := sm.r
  refine set_ F xd 3 (d := dN (atK p f0 0)) (nm F 2) ?_
  refine forN F xd 4 (List.range p.length) (fun (i : Nat) => .int (0 + (i : Int))) (src_rng1 F bn (n := (p.length : Nat)) (e_cast (e_lenT F bn (ds := p.map dR) (nm F 0) rfl) (by simp)) (by omega) (by omega) rfl) (fun n Γ' => (∀ k ∈ (List.range p.length).take n, decide (false ∉ segK p truth f0 k) = false) ∧ ∃ s4 s5, Γ' = [.dat (dP p), .dat (.list (truth.map .bool)), .dat (dN f0), .dat (dN (atK p f0 n)), s4, s5]) ⟨by simp, .un, .un, rfl⟩ ?_ ?_
  · rintro n i Γ' hi ⟨hall, s4, s5, rfl⟩
    have hi0 := hi
    obtain ⟨hm, rfl⟩ := range_snoc hi
    have hg : p[i]? = some p[i] := List.getElem?_eq_getElem hm
    refine set_ F xd 5 (d := dN p[i].ts.length) ?_ ?_
    · exact e_cast (e_lenT F bn (ds := p[i].ts.map dT) (e_ixT (ds := [.str p[i].v.str, .tuple (p[i].ts.map dT)]) (e_ixT (ds := p.map dR) (d := dR p[i]) (nm F 0) (nm F 4) (by rw [show (0 + (i : Int)) = (i : Nat) by omega]; exact atI_nn (by rw [List.getElem?_map, hg]; rfl))) e_int rfl) rfl) (by simp)
    have hseg : segK p truth f0 i = (truth.drop (atK p f0 i)).take p[i].ts.length := by simp [segK, hg]
    have hcut : cutD (truth.map PyData.bool) (some ((atK p f0 i : Nat) : Int)) (some ((atK p f0 i + p[i].ts.length : Nat) : Int)) = (segK p truth f0 i).map PyData.bool := by
      rw [cut_mid, hseg, List.map_take, List.map_drop]
    have hat : atK p f0 (i + 1) = atK p f0 i + p[i].ts.length := by
      unfold atK
      rw [take_snoc hg, List.map_append, List.sum_append]
      simp
      omega
    refine when_ (v := decide (false ∉ segK p truth f0 i)) (t_cast (t_nin e_bool (e_cast (e_slL (nm F 1) (.some (nm F 3)) (.some (e_cast (e_add (nm F 3) (nm F 5)) (y := .int ((atK p f0 i + p[i].ts.length : Nat) : Int)) (congrArg PyData.int (by omega))))) (congrArg PyData.list hcut)) rfl rfl (us := (segK p truth f0 i).map V.bl) (by simp [flatD, Function.comp_def])) (by rw [inV_bools, decide_not])) (fun h => ret (nm F 4) ?_) (fun h => ?_)
    · unfold decM
      rw [find_at (q := fun k => decide (false ∉ segK p truth f0 k)) hi0 hall h]
      simp
    · refine set_ F xd 3 (d := dN (atK p f0 (i + 1))) ?_ (ss_nil ⟨find_step (q := fun k => decide (false ∉ segK p truth f0 k)) hi0 hall h, _, _, rfl⟩)
      rw [hat]
      exact e_cast (e_add (nm F 3) (nm F 5)) (congrArg PyData.int (by omega))
  · rintro Γ' ⟨hall, s4, s5, rfl⟩
    refine ret (e_neg e_int) ?_
    unfold decM
    rw [find_no (q := fun k => decide (false ∉ segK p truth f0 k)) hall]
end
end Z
set_option Elab.async false
set_option linter.all false
set_option maxRecDepth 100000
set_option maxHeartbeats 1000000
namespace Z
open PySem PySem.Spec PyProof.Rows L2 Evl
/-! ### _law_second -/
def secC (ns : List Int) (c : Int) (p : List Rl) : List Rl :=
  if c % 5 < 2 ∨ p.length = 0 then polM ns 7
  else if c % 5 = 2 then p.take (c / 5 % p.length).toNat ++ p.drop ((c / 5 % p.length).toNat + 1)
  else if c % 5 = 3 then p.take (c / 5 % p.length).toNat ++ [⟨.hold, (p[(c / 5 % p.length).toNat]?.map Rl.ts).getD []⟩] ++ p.drop ((c / 5 % p.length).toNat + 1)
  else p ++ [⟨.hold, []⟩]
def secM (ns : List Int) (p : List Rl) : List Rl := secC ns (absI (cellM ns 6)) p
section
variable {P : Program} {w : World} {K : PySem.W.Frag} {mg : Str → Option Value} {base : Heap}
def d_law_second : List PyData → PyData → Prop := fun ds r => ∃ (ns : List Int) (p : List Rl), p.length ≤ 4 ∧ ds = [scrD ns, dP p] ∧ r = dP (secM ns p)
theorem w_law_second {f : Addr} {fd : FuncData} (Fn : FnP K "_law_second" s_law_second f fd) (hm : mg "_law_second" = some (.ref f)) (bn : BN mg) (f1 : FnF P w K mg base "_law_cell" 1 d_law_cell) (f2 : FnF P w K mg base "_law_policy" 5 d_law_policy) : FnF P w K mg base "_law_second" 6 d_law_second := by
  refine fn_mk Fn hm c_law_second (fun ds r ⟨_, _, _, h, _⟩ => by rw [h]; rfl) (fun _ _ _ _ _ _ us hl => match us, hl with | [_, _], _ => rfl) fun X F xd ds r ⟨ns, p, hp, h, hr⟩ => ?_
  subst h hr
  refine set_ F xd 2 (d := .int (absI (cellM ns 6))) ?_ ?_
  · exact e_abs F bn (ca2 F f1 (nm F 0) e_int ⟨ns, 6, rfl, rfl⟩) rfl
  unfold secM
  generalize absI (cellM ns 6) = c
  refine set_ F xd 3 (d := .int (c % 5)) ?_ ?_
  · exact e_mod (e_int1 F bn (nm F 2) rfl) e_int (by decide)
  have hl : ∀ {s2 s3 s4 pos p2 p3}, E X [.dat (scrD ns), .dat (dP p), s2, s3, s4] (.Call (.Name "len" p2) [.Name "_law_policy_here" p3] [] pos) (.int (p.length : Nat)) := fun {_ _ _ _ _ _} => e_cast (e_lenT F bn (ds := p.map dR) (nm F 1) rfl) (by simp)
  refine when_ (v := decide (c % 5 < 2 ∨ p.length = 0)) (t_cast (t_or2 (t_lt (nm F 3) e_int) fun _ => t_eq hl e_int (.int _ _)) ?_) (fun h => ?_) (fun h => ?_)
  · rw [Bool.decide_or]
    congr 1
    exact decide_eq_decide.mpr (by omega)
  · unfold secC
    rw [if_pos (of_decide_eq_true h)]
    exact ret (ca4 F f2 (nm F 0) e_int e_int e_int ⟨ns, 7, by decide, rfl, rfl⟩) rfl
  have hc : ¬ (c % 5 < 2 ∨ p.length = 0) := of_decide_eq_false h
  unfold secC
  rw [if_neg hc]
  have hpos : 0 < p.length := by omega
  have ha0 : 0 ≤ c / 5 % (p.length : Int) := Int.emod_nonneg _ (by omega)
  have ha1 : c / 5 % (p.length : Int) < p.length := Int.emod_lt_of_pos _ (by omega)
  refine set_ F xd 4 (d := dN (c / 5 % (p.length : Int)).toNat) ?_ ?_
  · exact e_cast (e_mod (e_int1 F bn (e_div (nm F 2) e_int (by decide)) rfl) hl (by omega)) (congrArg PyData.int (by omega))
  have hat : (c / 5 % (p.length : Int)).toNat < p.length := by omega
  generalize (c / 5 % (p.length : Int)).toNat = a at hat
  have hg : p[a]? = some p[a] := List.getElem?_eq_getElem hat
  have e1 : ∀ {s2 s3 p1 p2 p3 p4}, E X [.dat (scrD ns), .dat (dP p), s2, s3, .dat (dN a)] (.Subscript (.Name "_law_policy_here" p1) (.Slice none (some (.Name "_law_at" p2)) none p3) p4) (.tuple ((p.take a).map dR)) := fun {_ _ _ _ _ _} => e_cast (e_slT (ds := p.map dR) (nm F 1) .none (.some (nm F 4))) (by rw [cut_to, List.map_take])
  have e2 : ∀ {s2 s3 p1 p2 p3 p4 p5 p6 j}, E X [.dat (scrD ns), .dat (dP p), s2, s3, .dat (dN a)] (.Subscript (.Name "_law_policy_here" p1) (.Slice (some (.BinOp (.Name "_law_at" p2) .Add (.Constant (.int 1) j p5) p6)) none none p3) p4) (.tuple ((p.drop (a + 1)).map dR)) := fun {_ _ _ _ _ _ _ _ _} => e_cast (e_slT (ds := p.map dR) (nm F 1) (.some (e_cast (e_add (nm F 4) e_int) (y := .int ((a + 1 : Nat) : Int)) (congrArg PyData.int (by omega)))) .none) (by rw [cut_from, List.map_drop])
  have l1 : (p.take a).length ≤ 4 := by rw [List.length_take]; omega
  have l2 : (p.drop (a + 1)).length ≤ 4 := by rw [List.length_drop]; omega
  refine when_ (t_eq (nm F 3) e_int (.int _ _)) (fun h => ?_) (fun h => ?_)
  · rw [if_pos (of_decide_eq_true h)]
    refine ret (e_catT e1 e2 (by simp only [List.length_map]; omega)) ?_
    simp [dP]
  rw [if_neg (of_decide_eq_false h)]
  refine when_ (t_eq (nm F 3) e_int (.int _ _)) (fun h => ?_) (fun h => ?_)
  · rw [if_pos (of_decide_eq_true h)]
    refine ret (e_catT (e_catT e1 (tu1 (tu2 e_str (e_ixT (ds := [.str p[a].v.str, .tuple (p[a].ts.map dT)]) (e_ixT (ds := p.map dR) (d := dR p[a]) (nm F 1) (nm F 4) (atI_nn (by rw [List.getElem?_map, hg]; rfl))) e_int rfl))) (by simp only [List.length_map, List.length_singleton]; omega)) e2 (by simp only [List.length_map, List.length_append, List.length_singleton]; omega)) ?_
    simp [dP, hg]
    rfl
  rw [if_neg (of_decide_eq_false h)]
  refine ret (e_catT (nm F 1) (tu1 (tu2 e_str tu0)) (by simp; omega)) ?_
  simp [dP]
  rfl
end
end Z
set_option Elab.async false
set_option linter.all false
set_option maxRecDepth 100000
set_option maxHeartbeats 1000000
namespace Z
open PySem PySem.Spec PyProof.Rows L2 Evl
/-! ### _law_rows -/
abbrev Rw := List (Nat × Bool)
def dKB (x : Nat × Bool) : PyData := .tuple [dN x.1, .bool x.2]
def dRw (r : Rw) : PyData := .tuple (r.map dKB)
theorem eqv_kb (a b : Nat × Bool) : PyData.eqv (dKB a) (dKB b) = decide (a = b) := by
  obtain ⟨a1, a2⟩ := a
  obtain ⟨b1, b2⟩ := b
  simp only [dKB, PyData.eqv, PyData.eqvAll, Prod.mk.injEq]
  have h : ((a1 : Int) = b1) ↔ a1 = b1 := by omega
  have h2 : ((a1 : Int) == (b1 : Int)) = decide (a1 = b1) := by
    rw [show ((a1 : Int) == (b1 : Int)) = decide ((a1 : Int) = b1) from rfl]
    exact decide_eq_decide.mpr h
  cases a2 <;> cases b2 <;> simp [h, h2]
theorem eqvAll_map {α : Type} [DecidableEq α] {f : α → PyData} (hf : ∀ a b, PyData.eqv (f a) (f b) = decide (a = b)) : ∀ a b : List α, PyData.eqvAll (a.map f) (b.map f) = decide (a = b)
  | [], [] => by simp [PyData.eqvAll]
  | [], _ :: _ => by simp [PyData.eqvAll]
  | _ :: _, [] => by simp [PyData.eqvAll]
  | x :: a, y :: b => by
    simp only [List.map_cons, PyData.eqvAll]
    rw [eqvAll_map hf a b, hf]
    by_cases h : x = y <;> by_cases h2 : a = b <;> simp [h, h2]
theorem eqv_rw (a b : Rw) : PyData.eqv (dRw a) (dRw b) = decide (a = b) := by
  simp only [dRw, PyData.eqv]
  exact eqvAll_map eqv_kb a b
theorem any_map {α : Type} [DecidableEq α] {f : α → PyData} (hf : ∀ a b, PyData.eqv (f a) (f b) = decide (a = b)) (p : α) (l : List α) : ((l.map f).any fun z => PyData.eqv z (f p)) = decide (p ∈ l) := by
  rw [List.any_map]
  induction l with
  | nil => rfl
  | cons a r ih =>
    rw [List.any_cons, ih]
    simp only [Function.comp, hf]
    by_cases h : a = p
    · subst h; simp
    · have h' : ¬ p = a := fun e => h e.symm
      simp [h, h']
theorem shp_kb (x : Nat × Bool) : shp 1 (dKB x) := shp_tups (n := 0) _ (by
  intro d hd
  simp only [List.mem_cons, List.not_mem_nil, or_false] at hd
  rcases hd with rfl | rfl
  · exact shp_int _
  · exact shp_bool _)
theorem shp_rw (r : Rw) : shp 2 (dRw r) := shp_tuple r fun x _ => shp_kb x
theorem noscr_rw (r : Rw) : noscr (dRw r) = true := by
  show noscrs _ = true
  exact noscrs_map (fun _ => rfl) _
def pickM (ts : List Tm) (ws : List Str) : List Nat := (List.range ts.length).filter fun k => decide ((ts[k]?.map fun t => t.body.word).getD ("" : Str) ∈ ws)
def tmAt (ts : List Tm) (k : Nat) : Tm := ts.getD k ⟨false, .isk .no⟩
def rowF (ts : List Tm) (pk : List Nat) (f : Fx) : Rw := pk.map fun k => (k, hL (tmAt ts k) f)
def addR (acc : List Rw) (r : Rw) : List Rw := if r ∈ acc then acc else acc ++ [r]
def rowsM (ts : List Tm) (ws : List Str) (many : List Fx) : List Rw := (many.map (rowF ts (pickM ts ws))).foldl addR []
theorem addR_len (acc : List Rw) (r : Rw) : (addR acc r).length ≤ acc.length + 1 := by
  unfold addR
  split <;> simp
section
variable {P : Program} {w : World} {K : PySem.W.Frag} {mg : Str → Option Value} {base : Heap}
def d_law_rows : List PyData → PyData → Prop := fun ds r => ∃ (ts : List Tm) (ws : List Str) (many : List Fx), ts.length ≤ 100 ∧ many.length ≤ 50000 ∧ (∀ t ∈ ts, tOk t) ∧ (∀ f ∈ many, fOk f) ∧ ds = [.list (ts.map dT), .list (ws.map .str), .list (many.map dF)] ∧ r = .list ((rowsM ts ws many).map dRw)
theorem w_law_rows {f : Addr} {fd : FuncData} (Fn : FnP K "_law_rows" s_law_rows f fd) (hm : mg "_law_rows" = some (.ref f)) (bn : BN mg) (f1 : FnF P w K mg base "_law_holds" 2 d_law_holds) : FnF P w K mg base "_law_rows" 3 d_law_rows := by
  refine fn_mk Fn hm c_law_rows (fun ds r ⟨_, _, _, _, _, _, _, h, _⟩ => by rw [h]; rfl) (fun _ _ _ _ _ _ us hl => match us, hl with | [_, _, _], _ => rfl) fun X F xd ds r ⟨ts, ws, many, hts, hmn, tk, fk, h, hr⟩ => ?_
  subst h hr
  refine setLcN F xd 3 4 (List.range ts.length) (fun (i : Nat) => .int (0 + (i : Int))) (src_rng1 F bn (n := (ts.length : Nat)) (e_cast (e_lenL F bn (ds := ts.map dT) (nm F 0) rfl) (by simp)) (by omega) (by omega) rfl) (fun k => decide ((ts[k]?.map fun t => t.body.word).getD ("" : Str) ∈ ws)) dN (fun Y FY k hk => .one ?_) (fun Y FY k hk _ => e_cast (nm FY 4) (congrArg PyData.int (by omega))) (by simp; omega) ?_
  · have hk' : k < ts.length := by simpa using hk
    have hg : ts[k]? = some ts[k] := List.getElem?_eq_getElem hk'
    have hw : ((ts[k]?.map fun t => t.body.word).getD ("" : Str)) = ts[k].body.word := by rw [hg]; rfl
    rw [hw, ← inV_strs]
    obtain ⟨x, rest, hb⟩ := dB_shape ts[k].body
    have et : ∀ {p1 p2 p3}, E Y [.dat (.list (ts.map dT)), .dat (.list (ws.map .str)), .dat (.list (many.map dF)), .un, .dat (.int (0 + (k : Int))), .un, .un, .un] (.Subscript (.Name "_law_terms" p1) (.Name "_law_k" p2) p3) (.tuple [.bool ts[k].neg, dB ts[k].body]) := fun {_ _ _} => e_ixL (ds := ts.map dT) (nm FY 0) (nm FY 4) (by rw [show (0 + (k : Int)) = (k : Nat) by omega]; exact atI_nn (by rw [List.getElem?_map, hg]; rfl))
    rw [hb] at et
    exact t_in (e_ixT (e_ixT et e_int rfl) e_int at0) (nm FY 1) rfl rfl (flat_strs' ws)
  have hpk : (List.range ts.length).filter (fun k => decide ((ts[k]?.map fun t => t.body.word).getD ("" : Str) ∈ ws)) = pickM ts ws := rfl
  rw [hpk]
  unfold rowsM
  have hpl : (pickM ts ws).length ≤ 100 := Nat.le_trans (List.length_filter_le _ _) (by simpa using hts)
  have hpi : ∀ k ∈ pickM ts ws, k < ts.length := fun k hk => by simpa using (List.mem_filter.mp hk).1
  generalize pickM ts ws = pk at hpl hpi
  refine setF F xd 5 (ef_list as_nil (by decide)) ?_
  refine forN F xd 6 many dF (src_list (nm F 2)) (fun n Γ' => ∃ s4 s6 s7, Γ' = [.dat (.list (ts.map dT)), .dat (.list (ws.map .str)), .dat (.list (many.map dF)), .dat (.list (pk.map dN)), s4, .ob (oL X.K (((((many.map (rowF ts pk)).take n).foldl addR []).map dRw))), s6, s7]) ⟨_, _, _, rfl⟩ ?_ ?_
  · rintro n fx Γ' hf ⟨s4, s6, s7, rfl⟩
    have hfm := List.mem_of_getElem? hf
    have hn := (List.getElem?_eq_some_iff.mp hf).1
    rw [take_fold addR _ (show (many.map (rowF ts pk))[n]? = some (rowF ts pk fx) by rw [List.getElem?_map, hf]; rfl)]
    have hl := fold_len addR (fun _ => 1) addR_len ((many.map (rowF ts pk)).take n) []
    rw [sum_ones, List.length_take, List.length_nil] at hl
    generalize ((many.map (rowF ts pk)).take n).foldl addR [] = acc at hl ⊢
    refine set_ F xd 7 (d := dRw (rowF ts pk fx)) ?_ ?_
    · refine e_cast (e_tupleL F bn (lcA F 4 pk dN (src_list (nm F 3)) (fun k => dKB (k, hL (tmAt ts k) fx)) (fun Y FY k hk => ?_) (by omega)) rfl) (by simp [dRw, rowF, Function.comp_def])
      have hkl : k < ts.length := hpi k hk
      have hg : ts[k]? = some ts[k] := List.getElem?_eq_getElem hkl
      have e : tmAt ts k = ts[k] := by simp [tmAt, List.getD_eq_getElem?_getD, hg]
      rw [e]
      exact tu2 (nm FY 4) (ca2 FY f1 (e_ixL (ds := ts.map dT) (d := dT ts[k]) (nm FY 0) (nm FY 4) (atI_nn (by rw [List.getElem?_map, hg]; rfl))) (nm FY 6) ⟨ts[k], fx, tk _ (List.getElem_mem _), fk fx hfm, rfl, rfl⟩)
    refine when_ (v := decide (rowF ts pk fx ∉ acc)) (t_borrow 5 rfl (t_cast (t_ninD F (ds := acc.map dRw) (nm F 7) (nm F 5) (noscr_rw _) (noscrs_map noscr_rw _) (shp_shaped (shp_rw _)) (shp_shaped (shp_list _ fun r _ => shp_rw r))) (by rw [any_map eqv_rw, decide_not]; congr))) (fun h => ?_) (fun h => ?_)
    · have e : addR acc (rowF ts pk fx) = acc ++ [rowF ts pk fx] := by unfold addR; rw [if_neg (of_decide_eq_true h)]
      rw [e, List.map_append]
      exact app F 5 (ds := acc.map dRw) (nm F 7) (ss_nil (ss_nil ⟨_, _, _, rfl⟩)) (by simp; omega)
    · have e : addR acc (rowF ts pk fx) = acc := by unfold addR; rw [if_pos (Decidable.of_not_not (of_decide_eq_false h))]
      rw [e]
      exact ss_nil ⟨_, _, _, rfl⟩
  · rintro Γ' ⟨s4, s6, s7, rfl⟩
    have : (many.map (rowF ts pk)).take many.length = many.map (rowF ts pk) := List.take_of_length_le (by simp)
    rw [this]
    exact ss_freeze (i := 5) rfl (ret (nm F 5) rfl)
end
end Z
set_option Elab.async false
set_option linter.all false
set_option maxRecDepth 100000
set_option maxHeartbeats 1000000
namespace Z
open PySem PySem.Spec PyProof.Rows L2 Evl
/-! ### _law_is_sound -/
def kdOk (f : Fx) : Bool := decide ((f.kind, f.kinds) ∈ kpL)
def sndM (f : Fx) : Bool := decide (0 ≤ f.size ∧ f.size ≤ 2147483647 ∧ 0 ≤ f.pages ∧ f.pages ≤ 8 ∧ 0 ≤ f.depth ∧ f.depth ≤ 4) && kdOk f && decide (f.acts.length ≤ 1000) && decide (f.name.length ≤ 100000)
/-! ### _law_name_rows -/
def accN (ps : List Bts) (st : Sts) : List Bool := accS ps st
def nrow (ts : List Tm) (ps : List Bts) (pk : List Nat) (st : Sts) : Rw := pk.map fun k => (k, nameQ ps (accS ps st) (tmAt ts k))
def nrowsM (ts : List Tm) : List Rw := ((stsM (patsT ts)).map (nrow ts (patsT ts) (pickM ts wNm))).foldl addR []
end Z
set_option Elab.async false
set_option linter.all false
set_option maxRecDepth 100000
set_option maxHeartbeats 1000000
namespace Z
open PySem PySem.Spec PyProof.Rows L2 Evl
/-! ### _law_acts_lists -/
def actOf (t : Tm) : Ac := match t.body with | .act a => a | _ => .open_
def isAct (t : Tm) : Bool := decide (t.body.word = "act")
theorem namA_eq (ts : List Tm) : namA ts = (ts.filter isAct).map actOf := by
  unfold namA
  induction ts with
  | nil => rfl
  | cons t ts ih =>
    obtain ⟨ng, b⟩ := t
    cases b with
    | act a =>
      have h : isAct ⟨ng, .act a⟩ = true := by simp [isAct, Bd.word]
      rw [List.filter_cons, if_pos h, List.map_cons, ← ih]
      rfl
    | num f s n =>
      have h : isAct ⟨ng, .num f s n⟩ = false := decide_eq_false (show ¬ f.str = "act" by cases f <;> decide +kernel)
      rw [List.filter_cons, if_neg (by rw [h]; exact Bool.false_ne_true), ← ih]
      rfl
    | isk k =>
      have h : isAct ⟨ng, .isk k⟩ = false := decide_eq_false (show ¬ ("is" : Str) = "act" by decide +kernel)
      rw [List.filter_cons, if_neg (by rw [h]; exact Bool.false_ne_true), ← ih]
      rfl
    | could k =>
      have h : isAct ⟨ng, .could k⟩ = false := decide_eq_false (show ¬ ("could" : Str) = "act" by decide +kernel)
      rw [List.filter_cons, if_neg (by rw [h]; exact Bool.false_ne_true), ← ih]
      rfl
    | nam k =>
      have h : isAct ⟨ng, .nam k⟩ = false := decide_eq_false (show ¬ ("name" : Str) = "act" by decide +kernel)
      rw [List.filter_cons, if_neg (by rw [h]; exact Bool.false_ne_true), ← ih]
      rfl
end Z
set_option Elab.async false
set_option linter.all false
set_option maxHeartbeats 1000000
namespace Z
theorem minI_le (a b : Int) : minI a b ≤ a := by unfold minI; split <;> omega
theorem numL_le (ts : List Tm) (g : NF) (gr : Int) (h0 : 0 ≤ gr) : ∀ x ∈ numL ts g gr, x ≤ gr := by
  have step : ∀ (acc : List Int) (t : Tm), (∀ x ∈ acc, x ≤ gr) → ∀ x ∈ numLS g gr acc t, x ≤ gr := fun acc t h x hx => by
    unfold numLS at hx
    split at hx
    · split at hx
      · rcases List.mem_append.mp hx with hx | hx
        · exact h x hx
        · simp only [numT, List.mem_cons, List.not_mem_nil, or_false] at hx
          rcases hx with rfl | rfl | rfl <;> exact minI_le _ _
      · exact h x hx
    · exact h x hx
  have all : ∀ (ts : List Tm) (acc : List Int), (∀ x ∈ acc, x ≤ gr) → ∀ x ∈ ts.foldl (numLS g gr) acc, x ≤ gr := fun ts => by
    induction ts with
    | nil => exact fun acc h => h
    | cons t ts ih => exact fun acc h => ih _ (step acc t h)
  intro x hx
  have hx' : x ∈ ts.foldl (numLS g gr) [0, gr] := (List.mergeSort_perm _ _).mem_iff.mp hx
  exact all ts _ (by simp [h0]) x hx'
theorem numL_len (ts : List Tm) (g : NF) (gr : Int) : (numL ts g gr).length ≤ 2 + 3 * ts.length := by
  have h := fold_len (numLS g gr) (fun _ => 3) (numLS_len g gr) ts [0, gr]
  rw [sum_const] at h
  unfold numL srt
  rw [List.length_mergeSort]
  simpa using h
theorem actB_len (ts : List Tm) (s : List Ac) : (actB ts s).length ≤ 3 + 3 * ts.length := by
  unfold actB
  rw [List.length_map]
  refine Nat.le_trans (List.length_filter_le _ _) ?_
  have := numL_len ts .acts 102
  rw [List.length_append, List.length_singleton]
  omega
end Z
set_option Elab.async false
set_option linter.all false
set_option maxRecDepth 100000
set_option maxHeartbeats 1000000
namespace Z
open PySem PySem.Spec PyProof.Rows L2 Evl
section
variable {P : Program} {w : World} {K : PySem.W.Frag} {mg : Str → Option Value} {base : Heap}
def d_law_acts_lists : List PyData → PyData → Prop := fun ds r => ∃ ts : List Tm, ts.length ≤ 100 ∧ ds = [.list (ts.map dT)] ∧ r = .list ((actL ts).map dAs)
theorem bit_any : ∀ n < 8, ∀ b < 2 ^ n - 1, (List.range n).any (bitN b) = true := by decide +kernel
theorem som_ne {ks : List Ac} {b : Nat} (h : ks.length < 8) (hb : b < 2 ^ ks.length - 1) : somA ks b ≠ [] := fun e => by
  have h1 := bit_any _ h b hb
  obtain ⟨k, hk, hk2⟩ := List.any_eq_true.mp h1
  have h2 : (List.range ks.length).filter (bitN b) = [] := List.map_eq_nil_iff.mp e
  have h3 := List.filter_eq_nil_iff.mp h2 k hk
  exact h3 hk2
theorem kin_len (ts : List Tm) : (kinA ts).length ≤ 7 := by
  unfold kinA
  have h1 : (acL6.filter fun a => decide (a ∈ namA ts)).length ≤ 6 := List.length_filter_le _ _
  rw [List.length_append, List.length_take]
  omega
theorem w_law_acts_lists {f : Addr} {fd : FuncData} (Fn : FnP K "_law_acts_lists" s_law_acts_lists f fd) (hm : mg "_law_acts_lists" = some (.ref f)) (bn : BN mg) (f1 : FnF P w K mg base "_law_acts" 1 d_law_acts) (f2 : FnF P w K mg base "_law_numbers" 1 d_law_numbers) : FnF P w K mg base "_law_acts_lists" 2 d_law_acts_lists := by
  refine fn_mk Fn hm c_law_acts_lists (fun ds r ⟨_, _, h, _⟩ => by rw [h]; rfl) (fun _ _ _ _ _ _ us hl => match us, hl with | [_], _ => rfl) fun X F xd ds r ⟨ts, hts, h, hr⟩ => ?_
  subst h hr
  refine setF F xd 1 (ds := ([[]] : List (List Ac)).map dAs) (ef_list (as_cons tu0 as_nil) (by simp)) ?_
  refine set_ F xd 2 (d := .list ((namA ts).map fun a => .str a.str)) ?_ ?_ (hs := sw_cell (by rw [F.hsc]; rfl))
  · rw [namA_eq, List.map_map]
    refine lcN2 F 3 4 ts (fun t => .bool t.neg) (fun t => dB t.body) (src_list (ds := ts.map dT) (nm F 0)) isAct ((fun a : Ac => PyData.str a.str) ∘ actOf) (fun Y FY t ht => .one ?_) (fun Y FY t ht hf => ?_) (by omega)
    · obtain ⟨x, rest, hb⟩ := dB_shape t.body
      rw [hb]
      exact t_eq (e_ixT (nm FY 4) e_int at0) e_str (.str _ _)
    · obtain ⟨ng, b⟩ := t
      cases b with
      | act a =>
        have eb : ∀ {pos}, E Y (((wipeG [.dat (.list (ts.map dT)), .ob (oL X.K (([[]] : List (List Ac)).map dAs)), .un, .un, .un, .un, .un, .un, .un, .un, .un, .un] [3, 4]).set 3 (.dat (.bool ng))).set 4 (.dat (dB (.act a)))) (.Name "_law_body_here" pos) (.tuple [.str "act", .str a.str]) := fun {_} => nm FY 4
        exact e_ixT eb e_int rfl
      | num f s n => exact absurd (of_decide_eq_true hf) (show ¬ f.str = "act" by cases f <;> decide +kernel)
      | isk k => exact absurd (of_decide_eq_true hf) (show ¬ ("is" : Str) = "act" by decide +kernel)
      | could k => exact absurd (of_decide_eq_true hf) (show ¬ ("could" : Str) = "act" by decide +kernel)
      | nam k => exact absurd (of_decide_eq_true hf) (show ¬ ("name" : Str) = "act" by decide +kernel)
  have hin : ∀ {Y : Cx} {Γ : List Sl} {a : Ac}, inV (.str a.str) (((namA ts).map Ac.str).map V.str) = decide (a ∈ namA ts) := fun {_ _ a} => by rw [inV_strs, ac_in]
  have hfl : ((namA ts).map fun a : Ac => PyData.str a.str).map flatD = (((namA ts).map Ac.str).map V.str).map some := by simp [flatD, Function.comp_def]
  refine set_ F xd 5 (d := .list (((acL6.filter fun a => !decide (a ∈ namA ts)).take 1).map fun a => .str a.str)) ?_ ?_
  · refine e_cast (e_slL (lcN F 6 acL6 (fun a => .str a.str) (src_list (ca0 F f1 ⟨rfl, rfl⟩)) (fun a => !decide (a ∈ namA ts)) (fun a => .str a.str) (fun Y FY a ha => .one (t_cast (t_nin (nm FY 6) (nm FY 2) rfl rfl hfl) ?_)) (fun Y FY a ha _ => nm FY 6) (by decide)) .none (.some e_int)) ?_
    · rw [hin (Y := Y) (Γ := [])]
    · have := cut_to ((acL6.filter fun a => !decide (a ∈ namA ts)).map fun a => PyData.str a.str) 1
      rw [show ((1 : Nat) : Int) = 1 from rfl] at this
      rw [this, List.map_take]
  refine set_ F xd 7 (d := .list ((kinA ts).map fun a => .str a.str)) ?_ ?_
  · refine e_cast (e_catL (lcN F 6 acL6 (fun a => .str a.str) (src_list (ca0 F f1 ⟨rfl, rfl⟩)) (fun a => decide (a ∈ namA ts)) (fun a => .str a.str) (fun Y FY a ha => .one (t_cast (t_in (nm FY 6) (nm FY 2) rfl rfl hfl) (hin (Y := Y) (Γ := [])))) (fun Y FY a ha _ => nm FY 6) (by decide)) (nm F 5) ?_) ?_
    · have h1 : (acL6.filter fun a => decide (a ∈ namA ts)).length ≤ 6 := List.length_filter_le _ _
      simp only [List.length_map, List.length_take]
      omega
    · rw [← List.map_append]
      rfl
  have hkl := kin_len ts
  unfold actL
  generalize kinA ts = ks at hkl
  have hp : 2 ^ ks.length ≤ 2 ^ 7 := Nat.pow_le_pow_right (by omega) hkl
  have hp1 : 1 ≤ 2 ^ ks.length := Nat.one_le_two_pow
  have hkn : ∀ {Y : Cx} {sc : Scope} (FY : XF Y P w K mg base n_law_acts_lists sc 1) (hg : glB sc "len" = true) (hg2 : visB sc "_law_kinds_here" = true) {Γ : List Sl} {p1 p2 p3} (hi : Γ[7]? = some (.dat (.list (ks.map fun a => .str a.str)))), E Y Γ (.Call (.Name "len" p1) [.Name "_law_kinds_here" p2] [] p3) (.int (ks.length : Nat)) := fun {Y sc} FY hg hg2 {_ _ _ _} hi => e_cast (e_lenL FY bn (ds := ks.map fun a => .str a.str) (nm FY 7 (hv := hg2) (h := hi)) hg) (by simp)
  have hsrc : ∀ {Γ : List Sl} {tg p1 p2 p3 p4 p5 p6 p7} (hi : Γ[7]? = some (.dat (.list (ks.map fun a => .str a.str)))), Src X Γ tg (.Call (.Name "range" p1) [.Constant (.int 1) 0 p2, .BinOp (.Constant (.int 1) 0 p3) .LShift (.Call (.Name "len" p4) [.Name "_law_kinds_here" p5] [] p6) p7] [] ⟨0, 0, 0, 0⟩) ((List.range (2 ^ ks.length - 1)).map fun (b : Nat) => .int (1 + (b : Int))) → True := fun _ _ => trivial
  clear hsrc
  refine forN F xd 8 (List.range (2 ^ ks.length - 1)) (fun (b : Nat) => .int (1 + (b : Int))) ?_ (fun n Γ' => ∃ s8 s9 s10 s11, Γ' = [.dat (.list (ts.map dT)), .ob (oL X.K (([] :: ((List.range (2 ^ ks.length - 1)).take n).flatMap fun b => actB ts (somA ks b)).map dAs)), .dat (.list ((namA ts).map fun a => .str a.str)), .un, .un, .dat (.list (((acL6.filter fun a => !decide (a ∈ namA ts)).take 1).map fun a => .str a.str)), .un, .dat (.list (ks.map fun a => .str a.str)), s8, s9, s10, s11]) ⟨_, _, _, _, rfl⟩ ?_ ?_
  · have e : ((List.range (2 ^ ks.length - 1)).map fun (b : Nat) => PyData.int (1 + (b : Int))) = rngD 1 (((2 ^ ks.length : Nat) : Int) - 1).toNat := by
      unfold rngD
      rw [show (((2 ^ ks.length : Nat) : Int) - 1).toNat = 2 ^ ks.length - 1 by omega]
    rw [e]
    refine src_rng2 F bn (lo := 1) (n := ((2 ^ ks.length : Nat) : Int)) e_int ?_ (by omega) (by omega) (by decide) (by decide) rfl
    refine e_cast (x := .int (1 * 2 ^ ((ks.length : Nat) : Int).toNat)) ?_ (by simp)
    refine e_shl e_int (hkn F rfl rfl rfl) ?_
    unfold CPow
    exact ⟨by omega, by omega, by decide⟩
  · rintro n b Γ' hb ⟨s8, s9, s10, s11, rfl⟩
    obtain ⟨hm, rfl⟩ := range_snoc hb
    have hall := fm_take_len (fun b => actB ts (somA ks b)) (3 + 3 * ts.length) (fun b => actB_len ts _) (List.range (2 ^ ks.length - 1)) b
    rw [fm_take _ hb, ← List.cons_append]
    have hne := som_ne (ks := ks) (by omega) hm
    have hsl : (somA ks b).length ≤ 7 := by
      unfold somA
      rw [List.length_map]
      exact Nat.le_trans (List.length_filter_le _ _) (by simpa using hkl)
    have hacc : ([] :: ((List.range (2 ^ ks.length - 1)).take b).flatMap fun b => actB ts (somA ks b)).length ≤ 50000 := by
      rw [List.length_cons]
      have : (3 + 3 * ts.length) * b ≤ 303 * 127 := Nat.mul_le_mul (by omega) (by omega)
      omega
    generalize ([] :: ((List.range (2 ^ ks.length - 1)).take b).flatMap fun b => actB ts (somA ks b)) = acc at hacc
    refine set_ F xd 9 (d := dAs (somA ks b)) ?_ ?_
    · refine e_cast (e_tupleL F bn (lcN F 10 (List.range ks.length) (fun (i : Nat) => .int (0 + (i : Int))) (src_rng1 F bn (n := (ks.length : Nat)) (hkn F rfl rfl rfl) (by omega) (by omega) rfl) (bitN b) (fun k => .str (ks.getD k .open_).str) (fun Y FY k hk => .one (t_eq (e_and_ (e_shr (nm FY 8) (nm FY 10) (by omega)) e_int) e_int (.int _ _))) (fun Y FY k hk _ => ?_) (by simp; omega)) rfl) (by simp [dAs, somA, Function.comp_def])
      have hk' : k < ks.length := by simpa using hk
      have hg : ks[k]? = some ks[k] := List.getElem?_eq_getElem hk'
      exact e_ixL (ds := ks.map fun a => .str a.str) (nm FY 7) (nm FY 10) (by rw [show (0 + (k : Int)) = (k : Nat) by omega]; exact atI_nn (by simp [List.getD_eq_getElem?_getD, hg]))
    unfold actB
    generalize somA ks b = s at hne hsl
    have hns : ∀ x ∈ numL ts .acts 102 ++ [(s.length : Int)], x ≤ 102 := fun x hx => by
      rcases List.mem_append.mp hx with hx | hx
      · exact numL_le ts .acts 102 (by decide) x hx
      · simp at hx
        omega
    have hnl : (numL ts .acts 102 ++ [(s.length : Int)]).length ≤ 303 := by
      have := numL_len ts .acts 102
      rw [List.length_append, List.length_singleton]
      omega
    have hsrc : ((numL ts .acts 102 ++ [(s.length : Int)]).map PyData.int) = (numL ts .acts 102).map .int ++ [.int ((s.map fun k => PyData.str k.str).length : Nat)] := by simp
    refine forN F xd 11 (numL ts .acts 102 ++ [(s.length : Int)]) .int ?_ (fun m Γ' => ∃ s10 s11, Γ' = [.dat (.list (ts.map dT)), .ob (oL X.K ((acc ++ (((numL ts .acts 102 ++ [(s.length : Int)]).take m).filter fun n => decide ((s.length : Int) ≤ n)).map (repA s)).map dAs)), .dat (.list ((namA ts).map fun a => .str a.str)), .un, .un, .dat (.list (((acL6.filter fun a => !decide (a ∈ namA ts)).take 1).map fun a => .str a.str)), .un, .dat (.list (ks.map fun a => .str a.str)), .dat (.int (1 + (b : Int))), .dat (dAs s), s10, s11]) ⟨s10, s11, by simp⟩ ?_ ?_
    · rw [hsrc]
      exact src_list (e_catL (ca3 F f2 (nm F 0) e_str e_int ⟨ts, .acts, 102, hts, rfl, rfl⟩) (li1 (e_lenT F bn (ds := s.map fun k => .str k.str) (nm F 9) rfl)) (by have := numL_len ts .acts 102; simp; omega))
    · rintro m x Γ' hx ⟨s10, s11, rfl⟩
      have hxl := hns x (List.mem_of_getElem? hx)
      have hml := (List.getElem?_eq_some_iff.mp hx).1
      have enx : (acc ++ (((numL ts .acts 102 ++ [(s.length : Int)]).take (m + 1)).filter fun n => decide ((s.length : Int) ≤ n)).map (repA s)).map dAs = (acc ++ (((numL ts .acts 102 ++ [(s.length : Int)]).take m).filter fun n => decide ((s.length : Int) ≤ n)).map (repA s)).map dAs ++ ((([x] : List Int).filter fun n => decide ((s.length : Int) ≤ n)).map (repA s)).map dAs := by
        rw [take_snoc hx]
        simp
      rw [enx]
      have hfl : (((numL ts .acts 102 ++ [(s.length : Int)]).take m).filter fun n => decide ((s.length : Int) ≤ n)).length ≤ 303 := Nat.le_trans (List.length_filter_le _ _) (by rw [List.length_take]; omega)
      have hl2 : (acc ++ (((numL ts .acts 102 ++ [(s.length : Int)]).take m).filter fun n => decide ((s.length : Int) ≤ n)).map (repA s)).length ≤ 51000 := by
        rw [List.length_append, List.length_map]
        omega
      generalize acc ++ (((numL ts .acts 102 ++ [(s.length : Int)]).take m).filter fun n => decide ((s.length : Int) ≤ n)).map (repA s) = acc2 at hl2
      have eX := akX_eq s x
      rw [List.append_nil, ← List.length_map (as := s) (f := fun k => PyData.str k.str)] at eX
      have hcl : (cutD (s.map fun k => PyData.str k.str) none (some 1)) = (s.take 1).map fun k => PyData.str k.str := by
        have := cut_to (s.map fun k => PyData.str k.str) 1
        rw [show ((1 : Nat) : Int) = 1 from rfl] at this
        rw [this, List.map_take]
      refine when_ (v := decide ((s.length : Int) ≤ x)) (t_cast (t_ge (nm F 11) (e_lenT F bn (ds := s.map fun k => .str k.str) (nm F 9) rfl)) (by simp)) (fun h => ?_) (fun h => ?_)
      · have hge : (s.length : Int) ≤ x := of_decide_eq_true h
        have ef : (([x] : List Int).filter fun n => decide ((s.length : Int) ≤ n)) = [x] := by simp [hge]
        rw [ef]
        refine app F 1 (ds := acc2.map dAs) (d := dAs (repA s x)) ?_ (ss_nil (ss_nil ⟨_, _, rfl⟩)) (by simp; omega)
        refine e_cast (e_catT (nm F 9) (e_repT (e_slT (nm F 9) .none (.some e_int)) (e_sub (nm F 11) (e_lenT F bn (ds := s.map fun k => .str k.str) (nm F 9) rfl)) ?_ ?_ ?_ ?_) ?_) (congrArg PyData.tuple eX)
        · rw [hcl]
          intro z
          cases s with
          | nil => exact hne rfl
          | cons a s => simp at z
        · rw [List.length_map]; omega
        · omega
        · rw [hcl]; simp; omega
        · rw [hcl]
          simp only [List.length_map, List.length_flatten, List.map_replicate, List.sum_replicate_nat, List.length_take]
          have : (x - (s.length : Int)).toNat * min 1 s.length ≤ 102 * 1 := Nat.mul_le_mul (by omega) (by omega)
          omega
      · have hge : ¬ (s.length : Int) ≤ x := of_decide_eq_false h
        have ef : (([x] : List Int).filter fun n => decide ((s.length : Int) ≤ n)) = [] := by simp [hge]
        rw [ef]
        simp only [List.map_nil, List.append_nil]
        exact ss_nil ⟨_, _, rfl⟩
    · rintro Γ' ⟨s10, s11, rfl⟩
      rw [List.take_length]
      exact ss_nil ⟨_, _, _, _, rfl⟩
  · rintro Γ' ⟨s8, s9, s10, s11, rfl⟩
    refine ss_freeze (i := 1) rfl (ret (nm F 1) ?_)
    have e : (List.range (2 ^ ks.length - 1)).take (List.range (2 ^ ks.length - 1)).length = List.range (2 ^ ks.length - 1) := List.take_length
    rw [e]
end
end Z
set_option Elab.async false
set_option linter.all false
set_option maxRecDepth 100000
set_option maxHeartbeats 1000000
namespace Z
open PySem PySem.Spec PyProof.Rows L2 Evl
/-! ### the two ways to match a name are the same -/
def mm (p nm : Bts) : Nat → Nat → Bool
  | 0, k => decide (k = 0)
  | i + 1, k => if p[i]? = some 42 then (List.range (k + 1)).any (mm p nm i) else match k with
    | 0 => false
    | k + 1 => mm p nm i k && decide (nm.getD k 0 = p.getD i 0)
theorem mm_zero (p nm : Bts) (k : Nat) : mm p nm 0 k = decide (k = 0) := rfl
theorem mm_s0 {p nm : Bts} {i : Nat} (h : p[i]? = some 42) : mm p nm (i + 1) 0 = mm p nm i 0 := by
  show (if p[i]? = some 42 then (List.range 1).any (mm p nm i) else _) = _
  rw [if_pos h]
  simp [List.range_succ]
theorem mm_s {p nm : Bts} {i k : Nat} (h : p[i]? = some 42) : mm p nm (i + 1) (k + 1) = (mm p nm (i + 1) k || mm p nm i (k + 1)) := by
  show (if p[i]? = some 42 then (List.range (k + 1 + 1)).any (mm p nm i) else _) = ((if p[i]? = some 42 then (List.range (k + 1)).any (mm p nm i) else _) || _)
  rw [if_pos h, if_pos h, List.range_succ, List.any_append]
  simp
theorem mm_n0 {p nm : Bts} {i : Nat} (h : ¬ p[i]? = some 42) : mm p nm (i + 1) 0 = false := by
  show (if p[i]? = some 42 then _ else _) = _
  rw [if_neg h]
theorem mm_n {p nm : Bts} {i k : Nat} (h : ¬ p[i]? = some 42) : mm p nm (i + 1) (k + 1) = (mm p nm i k && decide (nm.getD k 0 = p.getD i 0)) := by
  show (if p[i]? = some 42 then _ else _) = _
  rw [if_neg h]
theorem dp_mm {p nm : Bts} : ∀ i, i ≤ p.length → (p.take i).foldl (dpS nm) (row0 nm.length) = (List.range (nm.length + 1)).map (mm p nm i)
  | 0, _ => by
    rw [List.take_zero, List.foldl_nil]
    apply List.ext_getElem?
    intro k
    rw [List.getElem?_map]
    by_cases hk : k < nm.length + 1
    · rw [List.getElem?_range hk]
      cases k with
      | zero => simp [row0, mm_zero]
      | succ k =>
        have : k < nm.length := by omega
        simp [row0, mm_zero, List.getElem?_replicate, this]
    · rw [List.getElem?_eq_none (by simp [row0]; omega), List.getElem?_eq_none (by simp; omega)]
      rfl
  | i + 1, h => by
    have hi : p[i]? = some p[i] := List.getElem?_eq_getElem (by omega)
    have hg : p.getD i 0 = p[i] := by rw [List.getD_eq_getElem?_getD, hi]; rfl
    rw [take_snoc hi, List.foldl_append, dp_mm i (by omega), List.foldl_cons, List.foldl_nil]
    unfold dpS
    by_cases hc : p[i] = 42
    · have hs : p[i]? = some 42 := by rw [hi, hc]
      rw [if_pos hc]
      refine List.map_congr_left fun k hk => ?_
      have hk' : k < nm.length + 1 := by simpa using hk
      show (List.take (k + 1) ((List.range (nm.length + 1)).map (mm p nm i))).any id = (if p[i]? = some 42 then (List.range (k + 1)).any (mm p nm i) else _)
      rw [if_pos hs, ← List.map_take, List.take_range, Nat.min_eq_left (by omega), List.any_map]
      rfl
    · have hs : ¬ p[i]? = some 42 := by rw [hi]; simpa using hc
      rw [if_neg hc]
      refine List.map_congr_left fun k hk => ?_
      have hk' : k < nm.length + 1 := by simpa using hk
      cases k with
      | zero => rw [mm_n0 hs]; rfl
      | succ k =>
        rw [mm_n hs, hg]
        show (((List.range (nm.length + 1)).map (mm p nm i)).getD k false && _) = _
        rw [List.getD_eq_getElem?_getD, List.getElem?_map, List.getElem?_range (by omega)]
        rfl
theorem lawMt_mm (p nm : Bts) : lawMt p nm = mm p nm p.length nm.length := by
  unfold lawMt
  have := dp_mm (p := p) (nm := nm) p.length (by omega)
  rw [List.take_length] at this
  rw [this, List.getD_eq_getElem?_getD, List.getElem?_map, List.getElem?_range (by omega)]
  rfl
/-- the places reached -/
def nn (p nm : Bts) (j k : Nat) : Bool := if p[j]? = some 42 then mm p nm (j + 1) k else mm p nm j k
theorem opn_mem {p pl : Bts} {j : Nat} : j ∈ opn p pl ↔ j ≤ p.length ∧ opnB p pl j = true := by
  unfold opn
  rw [List.mem_filter, List.mem_range]
  exact and_congr (by omega) Iff.rfl
theorem tgt_mem {p pl : Bts} {b x : Nat} : x ∈ tgt p pl b ↔ (x ∈ pl ∧ p[x]? = some 42) ∨ ∃ i, x = i + 1 ∧ i ∈ pl ∧ ¬ p[i]? = some 42 ∧ p[i]? = some b := by
  unfold tgt
  rw [List.mem_filterMap]
  constructor
  · rintro ⟨i, hi, h⟩
    cases q : p[i]? with
    | none => rw [q] at h; simp at h
    | some c =>
      rw [q] at h
      by_cases hc : c = 42
      · simp [hc] at h
        subst h
        exact .inl ⟨hi, by rw [q, hc]⟩
      · by_cases hb : c = b
        · simp [hc, hb] at h
          have hb42 : ¬ b = 42 := fun e => hc (hb.trans e)
          simp [hb42] at h
          exact .inr ⟨i, h.symm, hi, by rw [q]; simpa using hc, by rw [q, hb]⟩
        · simp [hc, hb] at h
  · rintro (⟨h1, h2⟩ | ⟨i, rfl, h1, h2, h3⟩)
    · exact ⟨x, h1, by rw [h2]; simp⟩
    · refine ⟨i, h1, ?_⟩
      rw [h3] at h2 ⊢
      have : ¬ b = 42 := by simpa using h2
      simp [this]
theorem nn_init {p nm : Bts} : ∀ j, j ≤ p.length → opnB p [0] j = nn p nm j 0
  | 0, _ => by
    rw [opnB_zero]
    unfold nn
    split
    · rename_i h
      rw [mm_s0 h, mm_zero]
      simp
    · rw [mm_zero]; simp
  | j + 1, h => by
    rw [opnB_succ (by omega), nn_init j (by omega)]
    have e : (nn p nm j 0 && decide (p[j]? = some 42)) = mm p nm (j + 1) 0 := by
      unfold nn
      by_cases hj : p[j]? = some 42
      · simp [hj]
      · rw [mm_n0 hj]; simp [hj]
    rw [e]
    have : decide (j + 1 ∈ ([0] : List Nat)) = false := by simp
    rw [this, Bool.or_false]
    by_cases hs : p[j + 1]? = some 42
    · unfold nn; rw [if_pos hs, mm_s0 hs]
    · unfold nn; rw [if_neg hs]
theorem nn_step {p nm pl : Bts} {k : Nat} (hpl : ∀ i, i ∈ pl ↔ i ≤ p.length ∧ nn p nm i k = true) : ∀ j, j ≤ p.length → opnB p (tgt p pl (nm.getD k 0)) j = nn p nm j (k + 1)
  | 0, h => by
    rw [opnB_zero, Bool.eq_iff_iff, decide_eq_true_eq, tgt_mem, hpl]
    unfold nn
    by_cases hs : p[0]? = some 42
    · rw [if_pos hs, if_pos hs, mm_s hs, mm_zero p nm (k + 1)]
      simp [hs]
    · rw [if_neg hs, if_neg hs, mm_zero p nm (k + 1)]
      simp [hs]
  | j + 1, h => by
    rw [opnB_succ (by omega), nn_step hpl j (by omega)]
    have hj : p[j]? = some p[j] := List.getElem?_eq_getElem (by omega)
    have hg : p.getD j 0 = p[j] := by rw [List.getD_eq_getElem?_getD, hj]; rfl
    have key : ((nn p nm j (k + 1) = true ∧ p[j]? = some 42) ∨ (j ∈ pl ∧ ¬ p[j]? = some 42 ∧ p[j]? = some (nm.getD k 0))) ↔ mm p nm (j + 1) (k + 1) = true := by
      by_cases hs : p[j]? = some 42
      · unfold nn
        simp [hs]
      · rw [mm_n hs, hpl, hg]
        unfold nn
        rw [if_neg hs, if_neg hs, hj]
        rw [hj] at hs
        simp only [hs, and_false, false_or, not_false_eq_true, true_and, Bool.and_eq_true, decide_eq_true_eq, Option.some.injEq]
        constructor
        · rintro ⟨⟨_, a⟩, b⟩
          exact ⟨a, b.symm⟩
        · rintro ⟨a, b⟩
          exact ⟨⟨by omega, a⟩, b.symm⟩
    have lhs : ((nn p nm j (k + 1) && decide (p[j]? = some 42)) || decide (j + 1 ∈ tgt p pl (nm.getD k 0))) = true ↔ mm p nm (j + 1) (k + 1) = true ∨ (j + 1 ∈ pl ∧ p[j + 1]? = some 42) := by
      rw [Bool.or_eq_true, Bool.and_eq_true, decide_eq_true_eq, decide_eq_true_eq, tgt_mem, ← key]
      constructor
      · rintro (a | a | ⟨i, e, b, c, d⟩)
        · exact .inl (.inl a)
        · exact .inr a
        · have : j = i := by omega
          subst this
          exact .inl (.inr ⟨b, c, d⟩)
      · rintro ((a | a) | a)
        · exact .inl a
        · exact .inr (.inr ⟨j, rfl, a⟩)
        · exact .inr (.inl a)
    rw [Bool.eq_iff_iff, lhs, hpl]
    by_cases hs : p[j + 1]? = some 42
    · unfold nn
      rw [if_pos hs, if_pos hs, mm_s hs, Bool.or_eq_true]
      constructor
      · rintro (a | ⟨⟨_, a⟩, _⟩)
        · exact .inr a
        · exact .inl a
      · rintro (a | a)
        · exact .inr ⟨⟨h, a⟩, hs⟩
        · exact .inl a
    · unfold nn
      rw [if_neg hs]
      simp [hs]
theorem nn_run {p nm : Bts} : ∀ k, k ≤ nm.length → ∀ j, j ∈ (nm.take k).foldl (mvd p) (opn p [0]) ↔ j ≤ p.length ∧ nn p nm j k = true
  | 0, _, j => by
    rw [List.take_zero, List.foldl_nil, opn_mem]
    exact and_congr_right fun h => by rw [nn_init j h]
  | k + 1, h, j => by
    have hk : nm[k]? = some nm[k] := List.getElem?_eq_getElem (by omega)
    have hg : nm.getD k 0 = nm[k] := by rw [List.getD_eq_getElem?_getD, hk]; rfl
    rw [take_snoc hk, List.foldl_append, List.foldl_cons, List.foldl_nil, ← hg]
    rw [show mvd p ((nm.take k).foldl (mvd p) (opn p [0])) (nm.getD k 0) = opn p (tgt p ((nm.take k).foldl (mvd p) (opn p [0])) (nm.getD k 0)) from rfl, opn_mem]
    exact and_congr_right fun hj => by rw [nn_step (nn_run k (by omega)) j hj]
theorem mt_mm (p nm : Bts) : mt p nm = mm p nm p.length nm.length := by
  unfold mt
  have := nn_run (p := p) (nm := nm) nm.length (by omega) p.length
  rw [List.take_length] at this
  rw [Bool.eq_iff_iff, decide_eq_true_eq, this]
  unfold nn
  rw [if_neg (by rw [List.getElem?_eq_none (by omega)]; simp)]
  simp
theorem lawMt_eq (p nm : Bts) : lawMt p nm = mt p nm := by rw [lawMt_mm, mt_mm]
end Z
set_option Elab.async false
set_option linter.all false
set_option maxRecDepth 100000
set_option maxHeartbeats 1000000
namespace Z
open PySem PySem.Spec PyProof.Rows L2 Evl
/-! ### few patterns of few letters have at most 512 joint states -/
def l4 : List Nat := [97, 98, 46, 0]
def pb4 : List Nat := [97, 98, 42, 46]
def nrm (b : Nat) : Nat := if b ∈ [97, 98, 46] then b else 0
theorem nrm_in (b : Nat) : nrm b ∈ l4 := by
  unfold nrm l4
  split
  · rename_i h
    simp at h ⊢
    omega
  · simp
def okL (p : Bts) : Prop := ∀ b ∈ p, b ∈ pb4
theorem mvd_nrm {p pl : Bts} (h : okL p) (b : Nat) : mvd p pl (nrm b) = mvd p pl b := by
  unfold mvd
  congr 1
  unfold tgt
  congr 1
  funext i
  cases q : p[i]? with
  | none => rfl
  | some c =>
    have hc := h c (List.mem_of_getElem? q)
    have : c = 42 ∨ (c = nrm b ↔ c = b) := by
      unfold nrm pb4 at *
      simp at hc ⊢
      split <;> omega
    rcases this with rfl | this
    · simp
    · simp [this]
/-- what counts at the start, at the end, and between -/
def cU (p : Bts) (u0 u1 : Nat) : Bool := match p with
  | [x, y] => decide (x = 42) || decide (u0 = x)
  | [x, y, z] => decide (x = 42) || (decide (u0 = x) && (decide (y = 42) || decide (u1 = y)))
  | _ => true
def cV (p : Bts) (v1 v0 : Nat) : Bool × Bool := match p with
  | [x, y] => (decide (x = 42) && decide (v0 = y) && !decide (y = 42), false)
  | [x, y, z] => if z = 42 then (false, false) else if x = 42 ∧ ¬ y = 42 then (decide (v0 = y), decide (v1 = y) && decide (v0 = z)) else (decide (v0 = z), false)
  | _ => (false, false)
def cS (p : Bts) (s : Bool × Bool × Bool) : Bool := match p with
  | [x, y, z] => if x = 42 ∧ z = 42 then (decide (y = 97) && s.1) || (decide (y = 98) && s.2.1) || (decide (y = 46) && s.2.2) else false
  | _ => false
def iff' (b : Bool) (x : Bts) : Bts := if b then x else []
def stq (p : Bts) (u : Bool) (v : Bool × Bool) (s : Bool) : Bts := if 42 ∉ p then [] else match p with
  | [x] => [0, 1]
  | [x, y] => if x = 42 then (if y = 42 then [0, 1, 2] else [0, 1] ++ iff' v.1 [2]) else iff' u [1, 2]
  | [x, y, z] => if x = 42 then
      (if y = 42 then (if z = 42 then [0, 1, 2, 3] else [0, 1, 2] ++ iff' v.1 [3])
       else if z = 42 then [0, 1] ++ iff' s [2, 3] else [0, 1] ++ iff' v.1 [2] ++ iff' v.2 [3])
     else if y = 42 then iff' u ([1, 2] ++ iff' (decide (z = 42) || v.1) [3])
     else iff' u [2, 3]
  | _ => []
/-- all patterns with a star -/
def p1 : List Bts := pb4.map fun a => [a]
def p2 : List Bts := pb4.flatMap fun a => pb4.map fun b => [a, b]
def p3 : List Bts := pb4.flatMap fun a => pb4.flatMap fun b => pb4.map fun c => [a, b, c]
def pS : List Bts := (p1 ++ p2 ++ p3).filter fun p => decide (42 ∈ p)
theorem pS_mem {p : Bts} (h : okL p) (hl : p.length ≤ 3) (hs : 42 ∈ p) : p ∈ pS := by
  unfold pS
  rw [List.mem_filter]
  refine ⟨?_, by simpa using hs⟩
  match p, hl with
  | [], _ => simp at hs
  | [a], _ =>
    refine List.mem_append_left _ (List.mem_append_left _ (List.mem_map.mpr ⟨a, h a (by simp), rfl⟩))
  | [a, b], _ =>
    refine List.mem_append_left _ (List.mem_append_right _ (List.mem_flatMap.mpr ⟨a, h a (by simp), List.mem_map.mpr ⟨b, h b (by simp), rfl⟩⟩))
  | [a, b, c], _ =>
    refine List.mem_append_right _ (List.mem_flatMap.mpr ⟨a, h a (by simp), List.mem_flatMap.mpr ⟨b, h b (by simp), List.mem_map.mpr ⟨c, h c (by simp), rfl⟩⟩⟩)
def run (p nm : Bts) : Bts := nm.foldl (mvd p) (opn p [0])
theorem run_snoc (p nm : Bts) (c : Nat) : run p (nm ++ [c]) = mvd p (run p nm) c := by simp [run]
def addS (s : Bool × Bool × Bool) (c : Nat) : Bool × Bool × Bool := (s.1 || decide (c = 97), s.2.1 || decide (c = 98), s.2.2 || decide (c = 46))
def seen (nm : Bts) : Bool × Bool × Bool := (decide (97 ∈ nm), decide (98 ∈ nm), decide (46 ∈ nm))
theorem seen_snoc (nm : Bts) (c : Nat) : seen (nm ++ [c]) = addS (seen nm) c := by
  simp [seen, addS, Bool.decide_or, eq_comm]
def bb : List Bool := [true, false]
theorem bb_in (b : Bool) : b ∈ bb := by cases b <;> decide
theorem chk0 : ∀ p ∈ pS, ∀ a ∈ l4, ∀ b ∈ l4, mvd p (mvd p (opn p [0]) a) b = stq p (cU p a b) (cV p a b) (cS p (addS (addS (false, false, false) a) b)) := by decide +kernel
/-- the letters that a pattern's end looks at -/
def cW (p : Bts) (v0 : Nat) : Bool := match p with
  | [x, y, z] => decide (v0 = y)
  | _ => false
def cVw (p : Bts) (w : Bool) (c : Nat) : Bool × Bool := match p with
  | [x, y] => (decide (x = 42) && decide (c = y) && !decide (y = 42), false)
  | [x, y, z] => if z = 42 then (false, false) else if x = 42 ∧ ¬ y = 42 then (decide (c = y), w && decide (c = z)) else (decide (c = z), false)
  | _ => (false, false)
theorem cVw_eq (p : Bts) (v0 c : Nat) : cV p v0 c = cVw p (cW p v0) c := by
  unfold cV cVw cW
  split <;> rfl
def cSc (p : Bts) (s : Bool) (c : Nat) : Bool := match p with
  | [x, y, z] => s || (decide (x = 42 ∧ z = 42) && decide (c = y) && !decide (y = 42))
  | _ => s
theorem cS_add : ∀ p ∈ pS, ∀ a ∈ bb, ∀ b ∈ bb, ∀ d ∈ bb, ∀ c ∈ l4, cS p (addS (a, b, d) c) = cSc p (cS p (a, b, d)) c := by decide +kernel
theorem chk1 : ∀ p ∈ pS, ∀ u ∈ bb, ∀ v1 ∈ l4, ∀ v0 ∈ l4, ∀ s ∈ bb, ∀ c ∈ l4, mvd p (stq p u (cV p v1 v0) s) c = stq p u (cV p v0 c) (cSc p s c) := by decide +kernel
theorem snoc_ind {α : Type} {Q : List α → Prop} (h0 : Q []) (h1 : ∀ l a, Q l → Q (l ++ [a])) (l : List α) : Q l := by
  have : ∀ l : List α, Q l.reverse := fun l => by
    induction l with
    | nil => exact h0
    | cons a l ih => rw [List.reverse_cons]; exact h1 _ _ ih
  have := this l.reverse
  rwa [List.reverse_reverse] at this
theorem run_star {a b : Nat} (ha : a ∈ l4) (hb : b ∈ l4) (t : Bts) : (∀ c ∈ t, c ∈ l4) → ∃ v1 ∈ l4, ∃ v0 ∈ l4, ∀ p ∈ pS, run p (a :: b :: t) = stq p (cU p a b) (cV p v1 v0) (cS p (seen (a :: b :: t))) := by
  refine snoc_ind (Q := fun t => (∀ c ∈ t, c ∈ l4) → ∃ v1 ∈ l4, ∃ v0 ∈ l4, ∀ p ∈ pS, run p (a :: b :: t) = stq p (cU p a b) (cV p v1 v0) (cS p (seen (a :: b :: t)))) (fun _ => ?_) (fun t c ih ht => ?_) t
  · refine ⟨a, ha, b, hb, fun p hp => ?_⟩
    have h1 : seen [a, b] = addS (addS (false, false, false) a) b := by
      rw [show [a, b] = ([] ++ [a]) ++ [b] from rfl, seen_snoc, seen_snoc]
      rfl
    rw [h1]
    exact chk0 p hp a ha b hb
  · obtain ⟨v1, h1, v0, h0, ih⟩ := ih fun x hx => ht x (by simp [hx])
    have hc := ht c (by simp)
    refine ⟨v0, h0, c, hc, fun p hp => ?_⟩
    rw [show a :: b :: (t ++ [c]) = (a :: b :: t) ++ [c] from rfl, run_snoc, ih p hp, seen_snoc, chk1 p hp _ (bb_in _) v1 h1 v0 h0 _ (bb_in _) c hc]
    obtain ⟨x, y, z⟩ := seen (a :: b :: t)
    rw [cS_add p hp x (bb_in x) y (bb_in y) z (bb_in z) c hc]
theorem mm_nost {p nm : Bts} (h : 42 ∉ p) : ∀ i k, mm p nm i k = true → i = k
  | 0, k, e => by simp [mm_zero] at e; omega
  | i + 1, 0, e => by
    rw [mm_n0 (fun q => h (List.mem_of_getElem? q))] at e
    cases e
  | i + 1, k + 1, e => by
    rw [mm_n (fun q => h (List.mem_of_getElem? q)), Bool.and_eq_true] at e
    rw [mm_nost h i k e.1]
theorem run_nost {p nm : Bts} (h : 42 ∉ p) (hl : p.length < nm.length) : run p nm = [] := by
  apply List.eq_nil_iff_forall_not_mem.mpr
  intro j hj
  have := nn_run (p := p) (nm := nm) nm.length (by omega) j
  rw [List.take_length] at this
  obtain ⟨h1, h2⟩ := this.mp hj
  unfold nn at h2
  rw [if_neg (fun q => h (List.mem_of_getElem? q))] at h2
  have := mm_nost h _ _ h2
  omega
/-! #### who stands for whom -/
def rU (p : Bts) : Option (Nat × Nat) := match p with
  | [x, y] => if ¬ x = 42 ∧ y = 42 then some (x, 0) else none
  | [x, y, z] => if x = 42 then none else if y = 42 then some (x, 0) else if z = 42 then some (x, y) else none
  | _ => none
def rV (p : Bts) : List (Nat × Nat) := match p with
  | [x, y] => if x = 42 ∧ ¬ y = 42 then [(0, y)] else []
  | [x, y, z] => if z = 42 then [] else if x = 42 then (if y = 42 then [(0, z)] else [(y, z), (0, y)]) else if y = 42 then [(0, z)] else []
  | _ => []
theorem rU1 : ∀ p ∈ pS, ∀ a ∈ l4, ∀ b ∈ l4, rU p ≠ some (a, b) → cU p a b = cU p a 0 := by decide +kernel
theorem rU2 : ∀ p ∈ pS, ∀ a ∈ l4, rU p ≠ some (a, 0) → cU p a 0 = cU p 0 0 := by decide +kernel
theorem rV1 : ∀ p ∈ pS, ∀ a ∈ l4, ∀ b ∈ l4, (a, b) ∉ rV p → cV p a b = cV p 0 b := by decide +kernel
theorem rV2 : ∀ p ∈ pS, ∀ b ∈ l4, (0, b) ∉ rV p → cV p 0 b = cV p 0 0 := by decide +kernel
def fU (ps : List Bts) : List (Nat × Nat) := (0, 0) :: ps.filterMap rU
def fV (ps : List Bts) : List (Nat × Nat) := (0, 0) :: ps.flatMap rV
def pin (ps : List Bts) (x : Nat) : Bool := decide ([42, x, 42] ∈ ps)
def opt (b : Bool) : List Bool := if b then [true, false] else [false]
def fS (ps : List Bts) : List (Bool × Bool × Bool) := (opt (pin ps 97)).flatMap fun a => (opt (pin ps 98)).flatMap fun b => (opt (pin ps 46)).map fun c => (a, b, c)
theorem gU {ps : List Bts} {a b : Nat} (ha : a ∈ l4) (hb : b ∈ l4) : ∃ r ∈ fU ps, ∀ p ∈ ps, p ∈ pS → cU p a b = cU p r.1 r.2 := by
  by_cases h1 : ∃ p ∈ ps, rU p = some (a, b)
  · obtain ⟨p, hp, e⟩ := h1
    exact ⟨(a, b), List.mem_cons_of_mem _ (List.mem_filterMap.mpr ⟨p, hp, e⟩), fun _ _ _ => rfl⟩
  have h1' : ∀ p ∈ ps, rU p ≠ some (a, b) := fun p hp e => h1 ⟨p, hp, e⟩
  by_cases h2 : ∃ p ∈ ps, rU p = some (a, 0)
  · obtain ⟨p, hp, e⟩ := h2
    exact ⟨(a, 0), List.mem_cons_of_mem _ (List.mem_filterMap.mpr ⟨p, hp, e⟩), fun p hp hS => rU1 p hS a ha b hb (h1' p hp)⟩
  exact ⟨(0, 0), List.mem_cons_self, fun p hp hS => (rU1 p hS a ha b hb (h1' p hp)).trans (rU2 p hS a ha fun e => h2 ⟨p, hp, e⟩)⟩
theorem gV {ps : List Bts} {a b : Nat} (ha : a ∈ l4) (hb : b ∈ l4) : ∃ r ∈ fV ps, ∀ p ∈ ps, p ∈ pS → cV p a b = cV p r.1 r.2 := by
  by_cases h1 : ∃ p ∈ ps, (a, b) ∈ rV p
  · obtain ⟨p, hp, e⟩ := h1
    exact ⟨(a, b), List.mem_cons_of_mem _ (List.mem_flatMap.mpr ⟨p, hp, e⟩), fun _ _ _ => rfl⟩
  have h1' : ∀ p ∈ ps, (a, b) ∉ rV p := fun p hp e => h1 ⟨p, hp, e⟩
  by_cases h2 : ∃ p ∈ ps, (0, b) ∈ rV p
  · obtain ⟨p, hp, e⟩ := h2
    exact ⟨(0, b), List.mem_cons_of_mem _ (List.mem_flatMap.mpr ⟨p, hp, e⟩), fun p hp hS => rV1 p hS a ha b hb (h1' p hp)⟩
  exact ⟨(0, 0), List.mem_cons_self, fun p hp hS => (rV1 p hS a ha b hb (h1' p hp)).trans (rV2 p hS b hb fun e => h2 ⟨p, hp, e⟩)⟩
theorem opt_in (b v : Bool) : (v && b) ∈ opt b := by cases b <;> cases v <;> decide
theorem cS_at {ps : List Bts} {p : Bts} (hp : p ∈ ps) (s : Bool × Bool × Bool) : cS p s = cS p (s.1 && pin ps 97, s.2.1 && pin ps 98, s.2.2 && pin ps 46) := by
  unfold cS
  split
  · rename_i x y z
    split
    · rename_i h
      obtain ⟨rfl, rfl⟩ := h
      by_cases h1 : y = 97
      · subst h1
        simp [pin, hp]
      by_cases h2 : y = 98
      · subst h2
        simp [pin, hp]
      by_cases h3 : y = 46
      · subst h3
        simp [pin, hp]
      simp [h1, h2, h3]
    · rfl
  · rfl
theorem gS {ps : List Bts} (s : Bool × Bool × Bool) : ∃ r ∈ fS ps, ∀ p ∈ ps, cS p s = cS p r := by
  refine ⟨(s.1 && pin ps 97, s.2.1 && pin ps 98, s.2.2 && pin ps 46), ?_, fun p hp => cS_at hp s⟩
  exact List.mem_flatMap.mpr ⟨_, opt_in _ _, List.mem_flatMap.mpr ⟨_, opt_in _ _, List.mem_map.mpr ⟨_, opt_in _ _, rfl⟩⟩⟩
/-! #### how many -/
def cnt (ps : List Bts) (x : Nat) : Nat := ps.count [42, x, 42]
def bN (b : Bool) : Nat := if b then 1 else 0
theorem wt_one (p : Bts) (h : okL p) (hl : p.length ≤ 3) : (rU p).toList.length + (rV p).length + 2 * ((if p = [42, 97, 42] then 1 else 0) + (if p = [42, 98, 42] then 1 else 0) + (if p = [42, 46, 42] then 1 else 0)) ≤ 2 := by
  have all : ∀ p ∈ ([] :: (p1 ++ p2 ++ p3) : List Bts), (rU p).toList.length + (rV p).length + 2 * ((if p = [42, 97, 42] then 1 else 0) + (if p = [42, 98, 42] then 1 else 0) + (if p = [42, 46, 42] then 1 else 0)) ≤ 2 := by decide +kernel
  refine all p ?_
  match p, hl with
  | [], _ => exact List.mem_cons_self
  | [a], _ =>
    refine List.mem_cons_of_mem _ (List.mem_append_left _ (List.mem_append_left _ (List.mem_map.mpr ⟨a, h a (by simp), rfl⟩)))
  | [a, b], _ =>
    refine List.mem_cons_of_mem _ (List.mem_append_left _ (List.mem_append_right _ (List.mem_flatMap.mpr ⟨a, h a (by simp), List.mem_map.mpr ⟨b, h b (by simp), rfl⟩⟩)))
  | [a, b, c], _ =>
    refine List.mem_cons_of_mem _ (List.mem_append_right _ (List.mem_flatMap.mpr ⟨a, h a (by simp), List.mem_flatMap.mpr ⟨b, h b (by simp), List.mem_map.mpr ⟨c, h c (by simp), rfl⟩⟩⟩))
theorem wt_all : ∀ ps : List Bts, (∀ p ∈ ps, okL p ∧ p.length ≤ 3) → (ps.filterMap rU).length + (ps.flatMap rV).length + 2 * (cnt ps 97 + cnt ps 98 + cnt ps 46) ≤ 2 * ps.length
  | [], _ => by simp [cnt]
  | p :: ps, h => by
    have h1 := wt_one p (h p (by simp)).1 (h p (by simp)).2
    have h2 := wt_all ps fun q hq => h q (by simp [hq])
    have e1 : ((p :: ps).filterMap rU).length = (rU p).toList.length + (ps.filterMap rU).length := by
      rw [List.filterMap_cons]
      cases rU p with
      | none => simp
      | some r => simp; omega
    have e2 : ((p :: ps).flatMap rV).length = (rV p).length + (ps.flatMap rV).length := by simp
    have ec : ∀ x, cnt (p :: ps) x = cnt ps x + if p = [42, x, 42] then 1 else 0 := fun x => by
      unfold cnt
      rw [List.count_cons]
      by_cases q : p = [42, x, 42] <;> simp [q]
    rw [e1, e2, ec, ec, ec, List.length_cons]
    omega
theorem pin_le (ps : List Bts) (x : Nat) : bN (pin ps x) ≤ cnt ps x := by
  unfold bN pin cnt
  by_cases h : [42, x, 42] ∈ ps
  · have := List.count_pos_iff.mpr h
    simp [h]
    try omega
  · simp [h]
theorem fS_len (ps : List Bts) : (fS ps).length = 2 ^ (bN (pin ps 97) + bN (pin ps 98) + bN (pin ps 46)) := by
  unfold fS
  cases pin ps 97 <;> cases pin ps 98 <;> cases pin ps 46 <;> rfl
theorem arith : ∀ U < 17, ∀ V < 17, ∀ c < 4, U + V + 2 * c ≤ 16 → (U + 1) * ((V + 1) * 2 ^ c) ≤ 400 := by decide +kernel
def LL (ps : List Bts) : List Sts := (fU ps).flatMap fun u => (fV ps).flatMap fun v => (fS ps).map fun s => ps.map fun p => stq p (cU p u.1 u.2) (cV p v.1 v.2) (cS p s)
theorem flatMap_len {α β : Type} {f : α → List β} {n : Nat} : ∀ {l : List α}, (∀ a ∈ l, (f a).length = n) → (l.flatMap f).length = l.length * n
  | [], _ => by simp
  | a :: l, h => by
    rw [List.flatMap_cons, List.length_append, h a (by simp), flatMap_len fun b hb => h b (by simp [hb]), List.length_cons, Nat.add_mul]
    omega
theorem LL_len {ps : List Bts} (h : ∀ p ∈ ps, okL p ∧ p.length ≤ 3) (hl : ps.length ≤ 8) : (LL ps).length ≤ 400 := by
  have e : (LL ps).length = (fU ps).length * ((fV ps).length * (fS ps).length) := by
    refine flatMap_len fun u _ => flatMap_len fun v _ => List.length_map _
  have w := wt_all ps h
  have a1 := pin_le ps 97
  have a2 := pin_le ps 98
  have a3 := pin_le ps 46
  have b1 : ∀ b, bN b ≤ 1 := fun b => by cases b <;> decide
  have c1 := b1 (pin ps 97)
  have c2 := b1 (pin ps 98)
  have c3 := b1 (pin ps 46)
  rw [e, fS_len]
  exact arith _ (by omega) _ (by omega) _ (by omega) (by omega)
def words : Nat → List Bts
  | 0 => [[]]
  | n + 1 => l4.flatMap fun c => (words n).map fun w => c :: w
theorem words_mem : ∀ w : Bts, (∀ c ∈ w, c ∈ l4) → w ∈ words w.length
  | [], _ => by simp [words]
  | c :: w, h => List.mem_flatMap.mpr ⟨c, h c (by simp), List.mem_map.mpr ⟨w, words_mem w fun x hx => h x (by simp [hx]), rfl⟩⟩
def shortW : List Bts := words 0 ++ words 1 ++ words 2 ++ words 3
theorem short_mem {w : Bts} (h : ∀ c ∈ w, c ∈ l4) (hl : w.length ≤ 3) : w ∈ shortW := by
  have := words_mem w h
  unfold shortW
  match q : w.length, hl with
  | 0, _ => rw [q] at this; simp [this]
  | 1, _ => rw [q] at this; simp [this]
  | 2, _ => rw [q] at this; simp [this]
  | 3, _ => rw [q] at this; simp [this]
theorem zip_self (ps : List Bts) (f : Bts → Bts) (b : Nat) : ((ps.zip (ps.map f)).map fun q => mvd q.1 q.2 b) = ps.map fun p => mvd p (f p) b := by
  induction ps with
  | nil => rfl
  | cons p ps ih => rw [List.map_cons, List.zip_cons_cons, List.map_cons, ih, List.map_cons]
theorem run_map (ps : List Bts) (nm : Bts) : nm.foldl (mvS ps) (stS ps) = ps.map fun p => run p nm := by
  have : ∀ (nm : Bts) (f : Bts → Bts), nm.foldl (mvS ps) (ps.map f) = ps.map fun p => nm.foldl (mvd p) (f p) := fun nm => by
    induction nm with
    | nil => intro f; rfl
    | cons b nm ih =>
      intro f
      rw [List.foldl_cons]
      unfold mvS
      rw [zip_self]
      exact ih _
  exact this nm _
theorem run_nrm {p : Bts} (h : okL p) (nm : Bts) : run p nm = run p (nm.map nrm) := by
  unfold run
  generalize opn p [0] = s
  induction nm generalizing s with
  | nil => rfl
  | cons b nm ih =>
    rw [List.map_cons, List.foldl_cons, List.foldl_cons, mvd_nrm h]
    exact ih _
theorem stq_nost {p : Bts} (h : 42 ∉ p) (u : Bool) (v : Bool × Bool) (s : Bool) : stq p u v s = [] := by
  unfold stq
  rw [if_pos h]
theorem few {ps : List Bts} (h : ∀ p ∈ ps, okL p ∧ p.length ≤ 3) (hl : ps.length ≤ 8) : ∀ l : List Sts, l.Nodup → (∀ s ∈ l, ∃ nm : Bts, s = nm.foldl (mvS ps) (stS ps)) → l.length ≤ 512 := fun l hn hr => by
  have h1 := nodup_le (m := (shortW.map fun w => ps.map fun p => run p w) ++ LL ps) hn fun s hs => by
    obtain ⟨nm, rfl⟩ := hr s hs
    rw [run_map]
    have e : (ps.map fun p => run p nm) = ps.map fun p => run p (nm.map nrm) := List.map_congr_left fun p hp => run_nrm (h p hp).1 nm
    rw [e]
    have hin : ∀ c ∈ nm.map nrm, c ∈ l4 := fun c hc => by
      obtain ⟨b, _, rfl⟩ := List.mem_map.mp hc
      exact nrm_in b
    generalize nm.map nrm = w at hin
    by_cases hw : w.length ≤ 3
    · exact List.mem_append_left _ (List.mem_map.mpr ⟨w, short_mem hin hw, rfl⟩)
    · refine List.mem_append_right _ ?_
      match w, hin, hw with
      | a :: b :: t, hin, hw =>
        obtain ⟨v1, h1, v0, h0, hv⟩ := run_star (hin a (by simp)) (hin b (by simp)) t fun c hc => hin c (by simp [hc])
        obtain ⟨u, hu, eu⟩ := gU (ps := ps) (hin a (by simp)) (hin b (by simp))
        obtain ⟨v, hv', ev⟩ := gV (ps := ps) h1 h0
        obtain ⟨s, hs', es⟩ := gS (ps := ps) (seen (a :: b :: t))
        refine List.mem_flatMap.mpr ⟨u, hu, List.mem_flatMap.mpr ⟨v, hv', List.mem_map.mpr ⟨s, hs', ?_⟩⟩⟩
        refine List.map_congr_left fun p hp => ?_
        by_cases st : 42 ∈ p
        · have hS := pS_mem (h p hp).1 (h p hp).2 st
          rw [hv p hS, eu p hp hS, ev p hp hS, es p hp]
        · rw [stq_nost st, run_nost st (by have := (h p hp).2; simp at hw ⊢; omega)]
      | [], _, hw => simp at hw
      | [a], _, hw => simp at hw
  have h2 : (shortW.map fun w => ps.map fun p => run p w).length = 85 := by
    rw [List.length_map]
    decide +kernel
  have h3 := LL_len h hl
  rw [List.length_append, h2] at h1
  omega
theorem okP_few {ps : List Bts} (h : ∀ p ∈ ps, okL p ∧ p.length ≤ 3) (hl : ps.length ≤ 8) : okP ps :=
  ⟨by omega, fun p hp => ⟨by have := (h p hp).2; omega, fun b hb => by have := (h p hp).1 b hb; simpa [pb4] using this⟩, few h hl⟩
end Z
set_option Elab.async false
set_option linter.all false
set_option maxRecDepth 100000
set_option maxHeartbeats 1000000
namespace Z
open PySem PySem.Spec PyProof.Rows L2 Evl
/-! ### _law_name_rows -/
theorem patsT_mem {ts : List Tm} {q : Bts} : q ∈ patsT ts ↔ ∃ t ∈ ts, t.body = .nam q := by
  have : ∀ acc : List Bts, q ∈ ts.foldl addP acc ↔ q ∈ acc ∨ ∃ t ∈ ts, t.body = .nam q := fun acc => by
    induction ts generalizing acc with
    | nil => simp
    | cons t ts ih =>
      rw [List.foldl_cons, ih, addP_mem]
      simp only [List.mem_cons, exists_eq_or_imp]
      exact or_assoc
  unfold patsT
  rw [this]
  simp
theorem bfs_reach {ps : List Bts} {ls : List Nat} : ∀ (f : Nat) {ns : List (Sts × Bts)} (i : Nat), (∀ x ∈ ns, ∃ nm : Bts, x.1 = nm.foldl (mvS ps) (stS ps)) → ∀ x ∈ bfs ps ls f ns i, ∃ nm : Bts, x.1 = nm.foldl (mvS ps) (stS ps)
  | 0, ns, i, h => h
  | f + 1, ns, i, h => by
    unfold bfs
    cases q : ns[i]? with
    | none => exact h
    | some e =>
      have he := h e (List.mem_of_getElem? q)
      refine bfs_reach f (i + 1) ?_
      have : ∀ (ls : List Nat) {ns : List (Sts × Bts)}, (∀ x ∈ ns, ∃ nm : Bts, x.1 = nm.foldl (mvS ps) (stS ps)) → ∀ x ∈ bfsE ps ls ns e, ∃ nm : Bts, x.1 = nm.foldl (mvS ps) (stS ps) := fun ls => by
        induction ls with
        | nil => exact fun h => h
        | cons b ls ih =>
          intro ns h
          refine ih (ns := bfs1 ps e ns b) fun x hx => ?_
          unfold bfs1 at hx
          split at hx
          · exact h x hx
          · rcases List.mem_append.mp hx with hx | hx
            · exact h x hx
            · simp at hx
              obtain ⟨nm, en⟩ := he
              exact ⟨nm ++ [b], by rw [hx, List.foldl_append, ← en]; rfl⟩
      exact this ls h
theorem sts_reach (ps : List Bts) : ∀ s ∈ stsM ps, ∃ nm : Bts, s = nm.foldl (mvS ps) (stS ps) := fun s hs => by
  obtain ⟨x, hx, rfl⟩ := List.mem_map.mp hs
  exact bfs_reach 513 0 (fun x hx => by simp at hx; rw [hx]; exact ⟨[], rfl⟩) x hx
theorem sts_ok (ps : List Bts) : ∀ s ∈ stsM ps, s.length = ps.length ∧ ∀ q ∈ ps.zip s, gq q := fun s hs => by
  obtain ⟨nm, rfl⟩ := sts_reach ps s hs
  exact run_ok nm (stS ps) (by simp [stS]) stS_ok
theorem pick_nam {ts : List Tm} {k : Nat} (h : k ∈ pickM ts wNm) : k < ts.length ∧ ∃ t, ts[k]? = some t ∧ ∃ p, t.body = .nam p := by
  obtain ⟨h1, h2⟩ := List.mem_filter.mp h
  have hk : k < ts.length := by simpa using h1
  have hg : ts[k]? = some ts[k] := List.getElem?_eq_getElem hk
  have hw : ts[k].body.word ∈ wNm := by simpa [hg] using h2
  have := is_nam (ts := ts) (t := ts[k]) (List.mem_filter.mpr ⟨List.getElem_mem hk, decide_eq_true hw⟩)
  exact ⟨hk, ts[k], hg, this⟩
section
variable {P : Program} {w : World} {K : PySem.W.Frag} {mg : Str → Option Value} {base : Heap}
def d_law_name_rows : List PyData → PyData → Prop := fun ds r => ∃ ts : List Tm, ts.length ≤ 100 ∧ okP (patsT ts) ∧ (stsM (patsT ts)).length ≤ 1000 ∧ ds = [.list (ts.map dT)] ∧ r = .list ((nrowsM ts).map dRw)
theorem w_law_name_rows {f : Addr} {fd : FuncData} (Fn : FnP K "_law_name_rows" s_law_name_rows f fd) (hm : mg "_law_name_rows" = some (.ref f)) (bn : BN mg) (f1 : FnF P w K mg base "_law_patterns" 1 d_law_patterns) (f2 : FnF P w K mg base "_law_states" 3 d_law_states) : FnF P w K mg base "_law_name_rows" 4 d_law_name_rows := by
  refine fn_mk Fn hm c_law_name_rows (fun ds r ⟨_, _, _, _, h, _⟩ => by rw [h]; rfl) (fun _ _ _ _ _ _ us hl => match us, hl with | [_], _ => rfl) fun X F xd ds r ⟨ts, hts, ok, hsl, h, hr⟩ => ?_
  subst h hr
  refine set_ F xd 1 (d := .list ((patsT ts).map dNs)) (ca1 F f1 (nm F 0) ⟨ts, by omega, rfl, rfl⟩) ?_
  refine setLcN F xd 2 3 (List.range ts.length) (fun (i : Nat) => .int (0 + (i : Int))) (src_rng1 F bn (n := (ts.length : Nat)) (e_cast (e_lenL F bn (ds := ts.map dT) (nm F 0) rfl) (by simp)) (by omega) (by omega) rfl) (fun k => decide ((ts[k]?.map fun t => t.body.word).getD ("" : Str) ∈ wNm)) dN (fun Y FY k hk => .one ?_) (fun Y FY k hk _ => e_cast (nm FY 3) (congrArg PyData.int (by omega))) (by simp; omega) ?_
  · have hk' : k < ts.length := by simpa using hk
    have hg : ts[k]? = some ts[k] := List.getElem?_eq_getElem hk'
    have hw : ((ts[k]?.map fun t => t.body.word).getD ("" : Str)) = ts[k].body.word := by rw [hg]; rfl
    rw [hw]
    obtain ⟨x, rest, hb⟩ := dB_shape ts[k].body
    have et : ∀ {p1 p2 p3}, E Y [.dat (.list (ts.map dT)), .dat (.list ((patsT ts).map dNs)), .un, .dat (.int (0 + (k : Int))), .un, .un, .un, .un, .un] (.Subscript (.Name "_law_terms" p1) (.Name "_law_k" p2) p3) (.tuple [.bool ts[k].neg, dB ts[k].body]) := fun {_ _ _} => e_ixL (ds := ts.map dT) (nm FY 0) (nm FY 3) (by rw [show (0 + (k : Int)) = (k : Nat) by omega]; exact atI_nn (by rw [List.getElem?_map, hg]; rfl))
    rw [hb] at et
    refine t_cast (t_eq (e_ixT (e_ixT et e_int rfl) e_int at0) e_str (.str _ _)) ?_
    unfold wNm
    simp
  have hpk : (List.range ts.length).filter (fun k => decide ((ts[k]?.map fun t => t.body.word).getD ("" : Str) ∈ wNm)) = pickM ts wNm := rfl
  rw [hpk]
  unfold nrowsM
  have hpl : (pickM ts wNm).length ≤ 100 := Nat.le_trans (List.length_filter_le _ _) (by simpa using hts)
  have hpn : ∀ k ∈ pickM ts wNm, k < ts.length ∧ ∃ t, ts[k]? = some t ∧ ∃ p, t.body = .nam p ∧ p ∈ patsT ts := fun k hk => by
    obtain ⟨h1, t, h2, p, h3⟩ := pick_nam hk
    exact ⟨h1, t, h2, p, h3, patsT_mem.mpr ⟨t, List.mem_of_getElem? h2, h3⟩⟩
  generalize pickM ts wNm = pk at hpl hpn
  have hst := sts_ok (patsT ts)
  have hpsl := ok.1
  have hp20 : ∀ p ∈ patsT ts, p.length ≤ 20 := fun p hp => (ok.2.1 p hp).1
  refine setF F xd 4 (ef_list as_nil (by decide)) ?_
  refine forN F xd 5 (stsM (patsT ts)) dSt (src_list (ca2 F f2 (nm F 1) e_int ⟨patsT ts, ok, rfl, rfl⟩)) (fun n Γ' => ∃ s3 s5 s6 s7 s8, Γ' = [.dat (.list (ts.map dT)), .dat (.list ((patsT ts).map dNs)), .dat (.list (pk.map dN)), s3, .ob (oL X.K (((((stsM (patsT ts)).map (nrow ts (patsT ts) pk)).take n).foldl addR []).map dRw)), s5, s6, s7, s8]) ⟨_, _, _, _, _, rfl⟩ ?_ ?_
  · rintro n st Γ' hf ⟨s3, s5, s6, s7, s8, rfl⟩
    have hfm := List.mem_of_getElem? hf
    have hn := (List.getElem?_eq_some_iff.mp hf).1
    obtain ⟨hsl1, hgq⟩ := hst st hfm
    rw [take_fold addR _ (show ((stsM (patsT ts)).map (nrow ts (patsT ts) pk))[n]? = some (nrow ts (patsT ts) pk st) by rw [List.getElem?_map, hf]; rfl)]
    have hl := fold_len addR (fun _ => 1) addR_len (((stsM (patsT ts)).map (nrow ts (patsT ts) pk)).take n) []
    rw [sum_ones, List.length_take, List.length_nil] at hl
    generalize (((stsM (patsT ts)).map (nrow ts (patsT ts) pk)).take n).foldl addR [] = acc at hl ⊢
    generalize hpseq : patsT ts = ps at *
    refine set_ F xd 6 (d := .list ((accS ps st).map .bool)) ?_ ?_ (hs := sw_cell (by rw [F.hsc]; rfl))
    · refine e_cast (lcA F 7 (List.range ps.length) (fun (i : Nat) => .int (0 + (i : Int))) (src_rng1 F bn (n := (ps.length : Nat)) (e_cast (e_lenL F bn (ds := ps.map dNs) (nm F 1) rfl) (by simp)) (by omega) (by omega) rfl) (fun j => .bool (decide ((ps.getD j []).length ∈ st.getD j []))) (fun Y FY j hj => ?_) (by simp; omega)) ?_
      · have hj' : j < ps.length := by simpa using hj
        have g1 : ps[j]? = some ps[j] := List.getElem?_eq_getElem hj'
        have g2 : st[j]? = some (st[j]'(by omega)) := List.getElem?_eq_getElem (by omega)
        have d1 : ps.getD j [] = ps[j] := by rw [List.getD_eq_getElem?_getD, g1]; rfl
        have d2 : st.getD j [] = st[j]'(by omega) := by rw [List.getD_eq_getElem?_getD, g2]; rfl
        rw [d1, d2]
        refine e_cast (e_in (u := .int (ps[j].length : Nat)) (us := ((st[j]'(by omega)).map fun (n : Nat) => (n : Int)).map V.int) (e_lenT FY bn (ds := ps[j].map dN) (e_ixL (ds := ps.map dNs) (nm FY 1) (nm FY 7) (by rw [show (0 + (j : Int)) = (j : Nat) by omega]; exact atI_nn (by rw [List.getElem?_map, g1]; rfl))) rfl) (e_ixT (ds := st.map dNs) (d := dNs (st[j]'(by omega))) (nm FY 5) (nm FY 7) (by rw [show (0 + (j : Int)) = (j : Nat) by omega]; exact atI_nn (by rw [List.getElem?_map, g2]; rfl))) (by simp [flatD]) rfl (by simp [flatD, Function.comp_def])) ?_
        rw [inV_ints, nat_in]
      · have := zip_range (ps := ps) (st := st) (fun a b => decide (a.length ∈ b)) hsl1
        refine congrArg PyData.list ?_
        unfold accS
        rw [← this, List.map_map]
        rfl
    refine set_ F xd 8 (d := dRw (nrow ts ps pk st)) ?_ ?_
    · refine e_cast (e_tupleL F bn (lcA F 3 pk dN (src_list (nm F 2)) (fun k => dKB (k, nameQ ps (accS ps st) (tmAt ts k))) (fun Y FY k hk => ?_) (by omega)) rfl) (by simp [dRw, nrow, Function.comp_def])
      obtain ⟨hkl, t, hg, p, hb, hpp⟩ := hpn k hk
      have e : tmAt ts k = t := by simp [tmAt, List.getD_eq_getElem?_getD, hg]
      rw [e]
      obtain ⟨ng, b⟩ := t
      have hb' : b = .nam p := hb
      subst hb'
      obtain ⟨i1, i2⟩ := idx_at hpp
      have hal : (accS ps st).length = ps.length := accS_len ps st hsl1
      have hlt : ps.idxOf p < (accS ps st).length := by rw [hal]; exact (List.getElem?_eq_some_iff.mp i1).1
      have hga : (accS ps st)[ps.idxOf p]? = some (accS ps st)[ps.idxOf p] := List.getElem?_eq_getElem hlt
      have hq : nameQ ps (accS ps st) ⟨ng, .nam p⟩ = (!decide ((accS ps st)[ps.idxOf p] = ng)) := by
        rw [bne_dec]
        simp [nameQ, List.getD_eq_getElem?_getD, hga]
      rw [hq]
      have et : ∀ {p1 p2 p3}, E Y [.dat (.list (ts.map dT)), .dat (.list (ps.map dNs)), .dat (.list (pk.map dN)), .dat (dN k), .ob (oL X.K (acc.map dRw)), .dat (dSt st), .dat (.list ((accS ps st).map .bool)), s7, s8] (.Subscript (.Name "_law_terms" p1) (.Name "_law_k" p2) p3) (.tuple [.bool ng, .tuple [.str "name", dNs p]]) := fun {_ _ _} => e_ixL (ds := ts.map dT) (nm FY 0) (nm FY 3) (atI_nn (by rw [List.getElem?_map, hg]; rfl))
      refine tu2 (nm FY 3) (e_ne (e_ixL (ds := (accS ps st).map .bool) (nm FY 6) (e_index FY (nm FY 1) (e_ixT (e_ixT et e_int rfl) e_int rfl) (noscrs_map noscr_nats _) (noscr_nats p) (shp_shaped (shp_natss _)) (shp_shaped (shp_nats p)) (j := ps.idxOf p) (z := dNs p) (by rw [List.getElem?_map, i1]; rfl) (by rw [eqv_nats]; simp) (fun m z' hm hz => ?_)) (atI_nn (by rw [List.getElem?_map, hga]; rfl))) (e_ixT et e_int rfl) (.bool _ _))
      rw [List.getElem?_map] at hz
      cases q : ps[m]? with
      | none => rw [q] at hz; cases hz
      | some zz =>
        rw [q] at hz
        cases hz
        rw [eqv_nats]
        exact decide_eq_false (i2 m zz hm q)
    refine when_ (v := decide (nrow ts ps pk st ∉ acc)) (t_borrow 4 rfl (t_cast (t_ninD F (ds := acc.map dRw) (nm F 8) (nm F 4) (noscr_rw _) (noscrs_map noscr_rw _) (shp_shaped (shp_rw _)) (shp_shaped (shp_list _ fun r _ => shp_rw r))) (by rw [any_map eqv_rw, decide_not]; congr))) (fun h => ?_) (fun h => ?_)
    · have e : addR acc (nrow ts ps pk st) = acc ++ [nrow ts ps pk st] := by unfold addR; rw [if_neg (of_decide_eq_true h)]
      rw [e, List.map_append]
      exact app F 4 (ds := acc.map dRw) (nm F 8) (ss_nil (ss_nil ⟨_, _, _, _, _, rfl⟩)) (by simp; omega)
    · have e : addR acc (nrow ts ps pk st) = acc := by unfold addR; rw [if_pos (Decidable.of_not_not (of_decide_eq_false h))]
      rw [e]
      exact ss_nil ⟨_, _, _, _, _, rfl⟩
  · rintro Γ' ⟨s3, s5, s6, s7, s8, rfl⟩
    have : ((stsM (patsT ts)).map (nrow ts (patsT ts) pk)).take (stsM (patsT ts)).length = (stsM (patsT ts)).map (nrow ts (patsT ts) pk) := List.take_of_length_le (by simp)
    rw [this]
    exact ss_freeze (i := 4) rfl (ret (nm F 4) rfl)
end
end Z
set_option Elab.async false
set_option linter.all false
set_option maxRecDepth 100000
set_option maxHeartbeats 1000000
namespace Z
open PySem PySem.Spec PyProof.Rows L2 Evl
/-! ### _law_is_sound -/
structure Sound (f : Fx) : Prop where
  by_ : ∀ b ∈ f.name, b ≤ 255
  nm : f.name.length ≤ 1000
  s0 : 0 ≤ f.size
  s1 : f.size ≤ 2147483647
  p0 : 0 ≤ f.pages
  p1 : f.pages ≤ 8
  d0 : 0 ≤ f.depth
  d1 : f.depth ≤ 4
  ac : f.acts.length ≤ 1000
  kk : (f.kind, f.kinds) ∈ kpL
theorem eqv_kd (a b : Kd) : PyData.eqv (.str a.str) (.str b.str) = decide (a = b) := by
  simp only [PyData.eqv]
  cases a <;> cases b <;> decide +kernel
theorem eqv_kk (a b : Kd × List Kd) : PyData.eqv (dKK a) (dKK b) = decide (a = b) := by
  obtain ⟨a1, a2⟩ := a
  obtain ⟨b1, b2⟩ := b
  have h : PyData.eqv (dKs a2) (dKs b2) = decide (a2 = b2) := by
    simp only [dKs, PyData.eqv]
    exact eqvAll_map eqv_kd a2 b2
  simp only [dKK, PyData.eqv, PyData.eqvAll, Prod.mk.injEq] at h ⊢
  have h1 := eqv_kd a1 b1
  simp only [PyData.eqv] at h1
  rw [h1, h]
  by_cases e : a1 = b1 <;> by_cases e2 : a2 = b2 <;> simp [e, e2]
theorem shp_kk (x : Kd × List Kd) : shp 2 (dKK x) := shp_tups (n := 1) _ (by
  intro d hd
  simp only [List.mem_cons, List.not_mem_nil, or_false] at hd
  rcases hd with rfl | rfl
  · exact shp_mono (shp_kd _) (by decide)
  · exact shp_tuple _ fun _ _ => shp_kd _)
theorem noscr_ks (l : List Kd) : noscr (dKs l) = true := by
  simp only [dKs, noscr]
  exact noscrs_map (fun _ => rfl) l
theorem noscr_kk (x : Kd × List Kd) : noscr (dKK x) = true := noscr_tup2 rfl (noscr_ks _)
section
variable {X : Cx} {P : Program} {w : World} {K : PySem.W.Frag} {mg : Str → Option Value} {base : Heap} {N : List Str} {sc : Scope} {k : Nat} {Γ : List Sl} {a b : Expr} {pos : Pos} {x : PyData} {ds : List PyData}
theorem od_inD (n1 : noscr x = true) (n2 : noscrs ds = true) (s1 : SeqAt.shaped x = true) (s2 : SeqAt.shaped (.list ds) = true) : OD K (rInD K) x (.list ds) (.bool (ds.any fun z => PyData.eqv z x)) := fun G H v u e h1 h2 Q hQ =>
  ⟨x, ds, dt_dp _ _ n1 (dp_ex e _ _ h1), dt_dp _ _ (by simpa [noscr] using n2) (dp_ex e _ _ h2), s1, s2, hQ _ G H (Gr.refl e) (.bl _)⟩
theorem e_inD (F : XF X P w K mg base N sc k) (ha : E X Γ a x) (hb : E X Γ b (.list ds)) (n1 : noscr x = true) (n2 : noscrs ds = true) (s1 : SeqAt.shaped x = true) (s2 : SeqAt.shaped (.list ds) = true) (hm : behindInMarks .In b = false := by rfl) :
    E X Γ (.Compare a [.In] [b] pos) (.bool (ds.any fun z => PyData.eqv z x)) := e_cmp (op_inD (by have := F.hu; omega)) (od_inD n1 n2 s1 s2) ha hb hm
end
section
variable {P : Program} {w : World} {K : PySem.W.Frag} {mg : Str → Option Value} {base : Heap}
def d_law_is_sound : List PyData → PyData → Prop := fun ds r => ∃ f : Fx, Sound f ∧ ds = [dF f] ∧ r = .bool true
theorem w_law_is_sound {f : Addr} {fd : FuncData} (Fn : FnP K "_law_is_sound" s_law_is_sound f fd) (hm : mg "_law_is_sound" = some (.ref f)) (bn : BN mg) (f1 : FnF P w K mg base "_law_is_integer" 1 d_law_is_integer) (f2 : FnF P w K mg base "_law_acts" 1 d_law_acts) (f3 : FnF P w K mg base "_law_kind_pairs" 2 d_law_kind_pairs) : FnF P w K mg base "_law_is_sound" 3 d_law_is_sound := by
  refine fn_mk Fn hm c_law_is_sound (fun ds r ⟨_, _, h, _⟩ => by rw [h]; rfl) (fun _ _ _ _ _ _ us hl => match us, hl with | [_], _ => rfl) fun X F xd ds r ⟨fx, hs, h, hr⟩ => ?_
  subst h hr
  have ef : ∀ {Y : Cx} {s1 s2 s3 s4} (FY : XF Y P w K mg base n_law_is_sound (defScope s_law_is_sound) 2) {pos}, E Y [.dat (dF fx), s1, s2, s3, s4] (.Name "_law_facts" pos) (.tuple [dNs fx.name, .int fx.size, .str fx.kind.str, dKs fx.kinds, .int fx.pages, dAs fx.acts, .int fx.depth]) := fun {_ _ _ _ _} FY {_} => nm FY 0
  refine when_ (tw_t (tw_or (t_not (t_val (e_isiTup F bn (ef F) rfl rfl rfl))) fun _ => tw_or (t_ne (e_lenT F bn (ef F) rfl) e_int (.int _ _)) fun _ => tw_or (t_not (t_val (e_isiTup F bn (e_ixT (ef F) e_int rfl) rfl rfl rfl))) fun _ => tw_or1 (t_not (t_val (e_isiTup F bn (e_ixT (ef F) e_int rfl) rfl rfl rfl))))) (fun h => by simp at h) fun _ => ?_
  refine forN F xd 1 fx.name dN (src_tup (e_ixT (ef F) e_int rfl)) (fun n Γ' => ∃ s1, Γ' = [.dat (dF fx), s1, .un, .un, .un]) ⟨_, rfl⟩ ?_ ?_
  · rintro n b Γ' hb ⟨s1, rfl⟩
    have hb2 := hs.by_ b (List.mem_of_getElem? hb)
    refine when_ (tw_t (tw_or (t_not (t_val (ca1 F f1 (nm F 1) ⟨b, rfl, rfl⟩))) fun _ => tw_or (t_lt (nm F 1) e_int) fun _ => tw_or1 (t_gt (nm F 1) e_int))) (fun h => by simp at h; omega) fun _ => ss_nil ⟨_, rfl⟩
  rintro Γ' ⟨s1, rfl⟩
  refine forN F xd 2 (List.range 3) (fun (i : Nat) => .int (0 + (i : Int))) (src_rng1 F bn (n := 3) e_int (by omega) (by omega) rfl) (fun n Γ' => ∃ s2 s3, Γ' = [.dat (dF fx), s1, s2, s3, .un]) ⟨_, _, rfl⟩ ?_ ?_
  · rintro n i Γ' hi ⟨s2, s3, rfl⟩
    obtain ⟨hm, rfl⟩ := range_snoc hi
    have e3 : ∀ {Y : Cx} {s1 s2 s3 s4} (FY : XF Y P w K mg base n_law_is_sound (defScope s_law_is_sound) 2) {pos p1 p2 p3 p4 p5 p6 q1 q2 q3 j1 j2 j3}, E Y [.dat (dF fx), s1, s2, s3, s4] (.List [.Subscript (.Name "_law_facts" p1) (.Constant (.int 1) j1 q1) p2, .Subscript (.Name "_law_facts" p3) (.Constant (.int 4) j2 q2) p4, .Subscript (.Name "_law_facts" p5) (.Constant (.int 6) j3 q3) p6] pos) (.list [.int fx.size, .int fx.pages, .int fx.depth]) := fun {_ _ _ _ _} FY {_ _ _ _ _ _ _ _ _ _ _ _ _} => e_list (as_cons (e_ixT (ef FY) e_int rfl) (as_cons (e_ixT (ef FY) e_int rfl) (as_cons (e_ixT (ef FY) e_int rfl) as_nil))) (by simp)
    have hn : i = 0 ∨ i = 1 ∨ i = 2 := by omega
    have a1 := hs.s0
    have a2 := hs.s1
    have a3 := hs.p0
    have a4 := hs.p1
    have a5 := hs.d0
    have a6 := hs.d1
    rcases hn with rfl | rfl | rfl
    · refine set_ F xd 3 (d := .int fx.size) (e_ixL (e3 F) (nm F 2) rfl) ?_
      exact when_ (tw_t (tw_or (t_not (t_val (ca1 F f1 (nm F 3) ⟨_, rfl, rfl⟩))) fun _ => tw_or (t_lt (nm F 3) e_int) fun _ => tw_or1 (t_gt (nm F 3) (e_ixL (ds := [.int 2147483647, .int 8, .int 4]) (d := .int 2147483647) (e_list (as_cons e_int (as_cons e_int (as_cons e_int as_nil))) (by simp)) (nm F 2) rfl)))) (fun h => by simp at h; omega) fun _ => ss_nil ⟨_, _, rfl⟩
    · refine set_ F xd 3 (d := .int fx.pages) (e_ixL (e3 F) (nm F 2) rfl) ?_
      exact when_ (tw_t (tw_or (t_not (t_val (ca1 F f1 (nm F 3) ⟨_, rfl, rfl⟩))) fun _ => tw_or (t_lt (nm F 3) e_int) fun _ => tw_or1 (t_gt (nm F 3) (e_ixL (ds := [.int 2147483647, .int 8, .int 4]) (d := .int 8) (e_list (as_cons e_int (as_cons e_int (as_cons e_int as_nil))) (by simp)) (nm F 2) rfl)))) (fun h => by simp at h; omega) fun _ => ss_nil ⟨_, _, rfl⟩
    · refine set_ F xd 3 (d := .int fx.depth) (e_ixL (e3 F) (nm F 2) rfl) ?_
      exact when_ (tw_t (tw_or (t_not (t_val (ca1 F f1 (nm F 3) ⟨_, rfl, rfl⟩))) fun _ => tw_or (t_lt (nm F 3) e_int) fun _ => tw_or1 (t_gt (nm F 3) (e_ixL (ds := [.int 2147483647, .int 8, .int 4]) (d := .int 4) (e_list (as_cons e_int (as_cons e_int (as_cons e_int as_nil))) (by simp)) (nm F 2) rfl)))) (fun h => by simp at h; omega) fun _ => ss_nil ⟨_, _, rfl⟩
  rintro Γ' ⟨s2, s3, rfl⟩
  refine forN F xd 4 fx.acts (fun k => .str k.str) (src_tup (ds := fx.acts.map fun k => .str k.str) (e_ixT (ef F) e_int rfl)) (fun n Γ' => ∃ s4, Γ' = [.dat (dF fx), s1, s2, s3, s4]) ⟨_, rfl⟩ ?_ ?_
  · rintro n a Γ' ha ⟨s4, rfl⟩
    refine when_ (v := false) (t_cast (t_nin (us := (acL6.map Ac.str).map V.str) (nm F 4) (ca0 F f2 ⟨rfl, rfl⟩) rfl rfl (by simp [flatD, Function.comp_def])) ?_) (fun h => by cases h) fun _ => ss_nil ⟨_, rfl⟩
    rw [inV_strs]
    cases a <;> decide +kernel
  rintro Γ' ⟨s4, rfl⟩
  have hac := hs.ac
  have hnm := hs.nm
  refine ret (d := .bool true) (e_cast (e_and (u := true) (v := true) (e_cast (e_inD F (x := dKK (fx.kind, fx.kinds)) (tu2 (e_ixT (ef F) e_int rfl) (e_ixT (ef F) e_int rfl)) (ca0 F f3 ⟨rfl, rfl⟩) (noscr_kk _) (noscrs_map noscr_kk _) (shp_shaped (shp_kk _)) (shp_shaped (shp_list _ fun r _ => shp_kk r))) ?_) fun _ => e_cast (e_and2 (u := true) (v := true) (e_cast (e_le (e_lenT F bn (ds := fx.acts.map fun k => .str k.str) (e_ixT (ef F) e_int rfl) rfl) e_int) ?_) fun _ => e_cast (e_le (e_lenT F bn (ds := fx.name.map dN) (e_ixT (ef F) e_int rfl) rfl) e_int) ?_) rfl) rfl) rfl
  · rw [any_map eqv_kk]
    exact congrArg PyData.bool (by simpa using hs.kk)
  · exact congrArg PyData.bool (decide_eq_true (by rw [List.length_map]; omega))
  · exact congrArg PyData.bool (decide_eq_true (by rw [List.length_map]; omega))
end
end Z
set_option Elab.async false
set_option linter.all false
set_option maxRecDepth 100000
set_option maxHeartbeats 1000000
namespace Z
open PySem PySem.Spec PyProof.Rows L2 Evl
/-! ### _law_choices -/
def fxS (n : Int) : Fx := ⟨[], n, .no, [], 0, [], 0⟩
def fxP (n : Int) : Fx := ⟨[], 0, .no, [], n, [], 0⟩
def fxD (n : Int) : Fx := ⟨[], 0, .no, [], 0, [], n⟩
def partsM (ts : List Tm) : List (List Rw) := [rowsM ts ["size"] ((numL ts .size 2147483647).map fxS), rowsM ts ["pages"] ((numL ts .pages 8).map fxP), rowsM ts ["depth"] ((numL ts .depth 4).map fxD), rowsM ts wIC (kpL.map fxK), rowsM ts wAA ((actL ts).map fxA), nrowsM ts]
def addC (choices longer : List Rw) (row : Rw) : List Rw := longer ++ choices.map fun c => c ++ row
def chS (choices : List Rw) (part : List Rw) : List Rw := part.foldl (addC choices) []
def chM (ts : List Tm) : List Rw := (partsM ts).foldl chS [[]]
def trS (tr : List Bool) (x : Nat × Bool) : List Bool := tr.set x.1 x.2
def truM (n : Nat) (c : Rw) : List Bool := c.foldl trS (List.replicate n false)
def choM (ts : List Tm) : List (List Bool) := (chM ts).map (truM ts.length)
def dBs (l : List Bool) : PyData := .list (l.map .bool)
structure choOk (ts : List Tm) : Prop where
  l : ts.length ≤ 20
  p : okP (patsT ts)
  st : (stsM (patsT ts)).length ≤ 1000
  t : ∀ t ∈ ts, tOk t
  ac : (actL ts).length ≤ 50000
  ch : ∀ n c, ((partsM ts).take n).foldl chS [[]] = c → c.length ≤ 1000 ∧ (∀ r ∈ c, r.length ≤ 1000 ∧ ∀ x ∈ r, x.1 < ts.length)
  r : ∀ p ∈ partsM ts, ∀ r ∈ p, r.length ≤ 1000
theorem addC_len (choices longer : List Rw) (row : Rw) : (addC choices longer row).length = longer.length + choices.length := by simp [addC]
theorem chs_pre {choices : List Rw} : ∀ (part longer : List Rw) (m : Nat), ((part.take m).foldl (addC choices) longer).length ≤ (part.foldl (addC choices) longer).length
  | [], longer, m => by simp
  | r :: part, longer, 0 => by
    have := chs_pre (choices := choices) part (addC choices longer r) 0
    rw [List.take_zero, List.foldl_nil] at this ⊢
    rw [addC_len] at this
    rw [List.foldl_cons]
    omega
  | r :: part, longer, m + 1 => chs_pre part (addC choices longer r) m
theorem trS_len (n : Nat) : ∀ (c : Rw) (tr : List Bool), tr.length = n → (c.foldl trS tr).length = n
  | [], tr, h => h
  | x :: c, tr, h => trS_len n c _ (by simp [trS, h])
section
variable {P : Program} {w : World} {K : PySem.W.Frag} {mg : Str → Option Value} {base : Heap}
def d_law_choices : List PyData → PyData → Prop := fun ds r => ∃ ts : List Tm, choOk ts ∧ ds = [.list (ts.map dT)] ∧ r = .list ((choM ts).map dBs)
theorem w_law_choices {f : Addr} {fd : FuncData} (Fn : FnP K "_law_choices" s_law_choices f fd) (hm : mg "_law_choices" = some (.ref f)) (bn : BN mg) (f1 : FnF P w K mg base "_law_rows" 3 d_law_rows) (f2 : FnF P w K mg base "_law_numbers" 1 d_law_numbers) (f3 : FnF P w K mg base "_law_kind_pairs" 2 d_law_kind_pairs) (f4 : FnF P w K mg base "_law_acts_lists" 2 d_law_acts_lists) (f5 : FnF P w K mg base "_law_name_rows" 4 d_law_name_rows) : FnF P w K mg base "_law_choices" 5 d_law_choices := by
  refine fn_mk Fn hm c_law_choices (fun ds r ⟨_, _, h, _⟩ => by rw [h]; rfl) (fun _ _ _ _ _ _ us hl => match us, hl with | [_], _ => rfl) fun X F xd ds r ⟨ts, ok, h, hr⟩ => ?_
  subst h hr
  have hts := ok.l
  have nk : ∀ {l : List Fx}, (∀ f ∈ l, f.name = []) → ∀ f ∈ l, fOk f := fun h f hf => ⟨by rw [h f hf]; simp⟩
  have hnl := fun g gr => numL_len ts g gr
  refine setF F xd 1 (ds := [.list ((rowsM ts ["size"] ((numL ts .size 2147483647).map fxS)).map dRw)]) ?_ ?_
  · refine ef_list (as_cons ?_ as_nil) (by simp)
    refine ca3 F f1 (d3 := .list (((numL ts .size 2147483647).map fxS).map dF)) (nm F 0) (li1 e_str) ?_ ⟨ts, ["size"], (numL ts .size 2147483647).map fxS, by omega, by have := hnl .size 2147483647; simp; omega, ok.t, nk (fun f hf => by obtain ⟨a, _, rfl⟩ := List.mem_map.mp hf; rfl), rfl, rfl⟩
    rw [List.map_map]
    exact lcA F 2 (numL ts .size 2147483647) .int (src_list (ca3 F f2 (nm F 0) e_str e_int ⟨ts, .size, _, by omega, rfl, rfl⟩)) (dF ∘ fxS) (fun Y FY n hn => e_tup (as_cons tu0 (as_cons (nm FY 2) (as_cons e_str (as_cons tu0 (as_cons e_int (as_cons tu0 (as_cons e_int as_nil))))))) (by simp)) (by have := hnl .size 2147483647; omega)
  refine app F 1 (ds := [.list ((rowsM ts ["size"] ((numL ts .size 2147483647).map fxS)).map dRw)]) (d := .list ((rowsM ts ["pages"] ((numL ts .pages 8).map fxP)).map dRw)) ?_ ?_ (by simp)
  · refine ca3 F f1 (d3 := .list (((numL ts .pages 8).map fxP).map dF)) (nm F 0) (li1 e_str) ?_ ⟨ts, ["pages"], (numL ts .pages 8).map fxP, by omega, by have := hnl .pages 8; simp; omega, ok.t, nk (fun f hf => by obtain ⟨a, _, rfl⟩ := List.mem_map.mp hf; rfl), rfl, rfl⟩
    rw [List.map_map]
    exact lcA F 2 (numL ts .pages 8) .int (src_list (ca3 F f2 (nm F 0) e_str e_int ⟨ts, .pages, _, by omega, rfl, rfl⟩)) (dF ∘ fxP) (fun Y FY n hn => e_tup (as_cons tu0 (as_cons e_int (as_cons e_str (as_cons tu0 (as_cons (nm FY 2) (as_cons tu0 (as_cons e_int as_nil))))))) (by simp)) (by have := hnl .pages 8; omega)
  refine app F 1 (ds := [.list ((rowsM ts ["size"] ((numL ts .size 2147483647).map fxS)).map dRw), .list ((rowsM ts ["pages"] ((numL ts .pages 8).map fxP)).map dRw)]) (d := .list ((rowsM ts ["depth"] ((numL ts .depth 4).map fxD)).map dRw)) ?_ ?_ (by simp)
  · refine ca3 F f1 (d3 := .list (((numL ts .depth 4).map fxD).map dF)) (nm F 0) (li1 e_str) ?_ ⟨ts, ["depth"], (numL ts .depth 4).map fxD, by omega, by have := hnl .depth 4; simp; omega, ok.t, nk (fun f hf => by obtain ⟨a, _, rfl⟩ := List.mem_map.mp hf; rfl), rfl, rfl⟩
    rw [List.map_map]
    exact lcA F 2 (numL ts .depth 4) .int (src_list (ca3 F f2 (nm F 0) e_str e_int ⟨ts, .depth, _, by omega, rfl, rfl⟩)) (dF ∘ fxD) (fun Y FY n hn => e_tup (as_cons tu0 (as_cons e_int (as_cons e_str (as_cons tu0 (as_cons e_int (as_cons tu0 (as_cons (nm FY 2) as_nil))))))) (by simp)) (by have := hnl .depth 4; omega)
  refine app F 1 (ds := [.list ((rowsM ts ["size"] ((numL ts .size 2147483647).map fxS)).map dRw), .list ((rowsM ts ["pages"] ((numL ts .pages 8).map fxP)).map dRw), .list ((rowsM ts ["depth"] ((numL ts .depth 4).map fxD)).map dRw)]) (d := .list ((rowsM ts wIC (kpL.map fxK)).map dRw)) ?_ ?_ (by simp)
  · refine ca3 F f1 (d3 := .list ((kpL.map fxK).map dF)) (nm F 0) (li2 e_str e_str) ?_ ⟨ts, wIC, kpL.map fxK, by omega, by rw [List.length_map]; decide +kernel, ok.t, nk (fun f hf => by obtain ⟨a, _, rfl⟩ := List.mem_map.mp hf; rfl), rfl, rfl⟩
    rw [List.map_map]
    exact lcA F 3 kpL dKK (src_list (ca0 F f3 ⟨rfl, rfl⟩)) (dF ∘ fxK) (fun Y FY n hn => e_tup (as_cons tu0 (as_cons e_int (as_cons (e_ixT (ds := [.str n.1.str, dKs n.2]) (nm FY 3) e_int rfl) (as_cons (e_ixT (ds := [.str n.1.str, dKs n.2]) (nm FY 3) e_int rfl) (as_cons e_int (as_cons tu0 (as_cons e_int as_nil))))))) (by simp)) (by decide +kernel)
  refine app F 1 (ds := [.list ((rowsM ts ["size"] ((numL ts .size 2147483647).map fxS)).map dRw), .list ((rowsM ts ["pages"] ((numL ts .pages 8).map fxP)).map dRw), .list ((rowsM ts ["depth"] ((numL ts .depth 4).map fxD)).map dRw), .list ((rowsM ts wIC (kpL.map fxK)).map dRw)]) (d := .list ((rowsM ts wAA ((actL ts).map fxA)).map dRw)) ?_ ?_ (by simp)
  · refine ca3 F f1 (d3 := .list (((actL ts).map fxA).map dF)) (nm F 0) (li2 e_str e_str) ?_ ⟨ts, wAA, (actL ts).map fxA, by omega, by rw [List.length_map]; exact ok.ac, ok.t, nk (fun f hf => by obtain ⟨a, _, rfl⟩ := List.mem_map.mp hf; rfl), rfl, rfl⟩
    rw [List.map_map]
    exact lcA F 4 (actL ts) dAs (src_list (ca1 F f4 (nm F 0) ⟨ts, by omega, rfl, rfl⟩)) (dF ∘ fxA) (fun Y FY n hn => e_tup (as_cons tu0 (as_cons e_int (as_cons e_str (as_cons tu0 (as_cons e_int (as_cons (nm FY 4) (as_cons e_int as_nil))))))) (by simp)) (by have := ok.ac; omega)
  refine app F 1 (ds := [.list ((rowsM ts ["size"] ((numL ts .size 2147483647).map fxS)).map dRw), .list ((rowsM ts ["pages"] ((numL ts .pages 8).map fxP)).map dRw), .list ((rowsM ts ["depth"] ((numL ts .depth 4).map fxD)).map dRw), .list ((rowsM ts wIC (kpL.map fxK)).map dRw), .list ((rowsM ts wAA ((actL ts).map fxA)).map dRw)]) (d := .list ((nrowsM ts).map dRw)) ?_ ?_ (by simp)
  · exact ca1 F f5 (nm F 0) ⟨ts, by omega, ok.p, ok.st, rfl, rfl⟩
  refine ss_freeze (i := 1) rfl ?_
  have hch := ok.ch
  have hrl := ok.r
  show Ss X [.dat (.list (ts.map dT)), .dat (.list ((partsM ts).map fun p => .list (p.map dRw))), .un, .un, .un, .un, .un, .un, .un, .un, .un, .un, .un, .un] _ _
  unfold choM chM
  generalize partsM ts = parts at hch hrl ⊢
  refine set_ F xd 5 (d := .list (([[]] : List Rw).map dRw)) (li1 tu0) ?_
  refine forN F xd 6 parts (fun p => .list (p.map dRw)) (src_list (nm F 1)) (fun n Γ' => ∃ s6 s7 s8 s9, Γ' = [.dat (.list (ts.map dT)), .dat (.list (parts.map fun p => .list (p.map dRw))), .un, .un, .un, .dat (.list (((parts.take n).foldl chS [[]]).map dRw)), s6, s7, s8, s9, .un, .un, .un, .un]) ⟨_, _, _, _, rfl⟩ ?_ ?_
  · rintro n part Γ' hp ⟨s6, s7, s8, s9, rfl⟩
    have h2 := (hch (n + 1) _ rfl)
    have h1 := (hch n _ rfl)
    rw [take_fold chS _ hp] at h2 ⊢
    generalize (parts.take n).foldl chS [[]] = ch at h1 h2 ⊢
    have hpr := hrl part (List.mem_of_getElem? hp)
    refine set_ F xd 7 (d := .list (([] : List Rw).map dRw)) li0 ?_
    refine forN F xd 8 part dRw (src_list (nm F 6)) (fun m Γ' => ∃ s8 s9, Γ' = [.dat (.list (ts.map dT)), .dat (.list (parts.map fun p => .list (p.map dRw))), .un, .un, .un, .dat (.list (ch.map dRw)), .dat (.list (part.map dRw)), .dat (.list (((part.take m).foldl (addC ch) []).map dRw)), s8, s9, .un, .un, .un, .un]) ⟨_, _, rfl⟩ ?_ ?_
    · rintro m row Γ' hr ⟨s8, s9, rfl⟩
      have hpre := chs_pre (choices := ch) part [] (m + 1)
      have hrr := hpr row (List.mem_of_getElem? hr)
      rw [take_fold (addC ch) _ hr] at hpre ⊢
      have hall : (part.foldl (addC ch) []).length ≤ 1000 := h2.1
      rw [addC_len] at hpre
      generalize (part.take m).foldl (addC ch) [] = lg at hpre ⊢
      refine set_ F xd 7 (d := .list ((addC ch lg row).map dRw)) (e_cast (e_catL (nm F 7) (lcA F 9 ch dRw (src_list (nm F 5)) (fun c => dRw (c ++ row)) (fun Y FY c hc => ?_) (by omega)) (by simp; omega)) (by unfold addC; rw [List.map_append, List.map_map]; rfl)) (ss_nil ⟨_, _, rfl⟩)
      have := (h1.2 c hc).1
      exact e_cast (e_catT (ds := c.map dKB) (es := row.map dKB) (nm FY 9) (nm FY 8) (by simp; omega)) (by simp [dRw])
    · rintro Γ' ⟨s8, s9, rfl⟩
      rw [List.take_length]
      exact set_ F xd 5 (nm F 7) (ss_nil ⟨_, _, _, _, rfl⟩)
  · rintro Γ' ⟨s6, s7, s8, s9, rfl⟩
    have h1 := (hch parts.length _ rfl)
    rw [List.take_length] at h1 ⊢
    generalize parts.foldl chS [[]] = ch at h1 ⊢
    refine setF F xd 10 (ef_list as_nil (by decide)) ?_
    refine forN F xd 9 ch dRw (src_list (nm F 5)) (fun m Γ' => ∃ s9 s11 s12 s13, Γ' = [.dat (.list (ts.map dT)), .dat (.list (parts.map fun p => .list (p.map dRw))), .un, .un, .un, .dat (.list (ch.map dRw)), s6, s7, s8, s9, .ob (oL X.K (((ch.take m).map (truM ts.length)).map dBs)), s11, s12, s13]) ⟨_, _, _, _, rfl⟩ ?_ ?_
    · rintro m c Γ' hc ⟨s9, s11, s12, s13, rfl⟩
      have hcl := h1.2 c (List.mem_of_getElem? hc)
      have hml := (List.getElem?_eq_some_iff.mp hc).1
      rw [take_snoc hc, List.map_append]
      have hl2 : ((ch.take m).map (truM ts.length)).length ≤ 1000 := by
        rw [List.length_map, List.length_take]
        omega
      generalize (ch.take m).map (truM ts.length) = acc at hl2 ⊢
      have eR : (List.replicate ((ts.length : Nat) : Int).toNat [PyData.bool false]).flatten = (List.replicate ts.length false).map PyData.bool := by
        rw [rep_flat]
        simp
      refine setF F xd 11 (ds := (List.replicate ts.length false).map .bool) (eR ▸ ef_rep (n := (ts.length : Nat)) (li1 e_bool) (e_cast (e_lenL F bn (ds := ts.map dT) (nm F 0) rfl) (by simp)) (by omega) (by omega) (by simp; omega)) ?_
      refine forN2 F xd 12 13 c (fun x => dN x.1) (fun x => .bool x.2) (src_tup (ds := c.map dKB) (nm F 9)) (fun q Γ' => ∃ s12 s13, Γ' = [.dat (.list (ts.map dT)), .dat (.list (parts.map fun p => .list (p.map dRw))), .un, .un, .un, .dat (.list (ch.map dRw)), s6, s7, s8, .dat (dRw c), .ob (oL X.K (acc.map dBs)), .ob (oL X.K (((c.take q).foldl trS (List.replicate ts.length false)).map .bool)), s12, s13]) ⟨_, _, rfl⟩ ?_ ?_
      · rintro q x Γ' hx ⟨s12, s13, rfl⟩
        have hxl := hcl.2 x (List.mem_of_getElem? hx)
        have htl := trS_len ts.length (c.take q) (List.replicate ts.length false) (by simp)
        rw [take_fold trS _ hx]
        generalize (c.take q).foldl trS (List.replicate ts.length false) = tr at htl ⊢
        have e : (trS tr x).map PyData.bool = (tr.map PyData.bool).set x.1 (.bool x.2) := by unfold trS; rw [List.map_set]
        rw [e]
        exact setIx F 11 (ds := tr.map .bool) (j := x.1) (nm F 13) (nm F 12) (ixN_nn (by rw [List.length_map]; omega)) (ss_nil ⟨_, _, rfl⟩)
      · rintro Γ' ⟨s12, s13, rfl⟩
        rw [List.take_length]
        refine ss_freeze (i := 11) rfl ?_
        have e : (acc ++ [c].map (truM ts.length)).map dBs = acc.map dBs ++ [dBs (truM ts.length c)] := by simp
        rw [e]
        exact app F 10 (ds := acc.map dBs) (d := dBs (truM ts.length c)) (nm F 11) (ss_nil ⟨_, _, _, _, rfl⟩) (by simp; omega)
    · rintro Γ' ⟨s9, s11, s12, s13, rfl⟩
      rw [List.take_length]
      exact ss_freeze (i := 10) rfl (ret (nm F 10) rfl)
end
end Z
set_option Elab.async false
set_option linter.all false
set_option maxRecDepth 100000
set_option maxHeartbeats 1000000
namespace Z
open PySem PySem.Spec PyProof.Rows L2 Evl
/-! ### law -/
def jI (p : List Rl) (f : Fx) : Int := match (List.range p.length).find? fun k => ((p[k]?.map (·.ts)).getD []).all fun t => hL t f with
  | some k => (k : Nat)
  | none => -1
theorem jdM_eq (p : List Rl) (f : Fx) : jdM p f = .tuple [.str (vdM p (jI p f)).str, .int (jI p f)] := by
  unfold jdM jI
  cases (List.range p.length).find? fun k => ((p[k]?.map (·.ts)).getD []).all fun t => hL t f with
  | some k =>
    have : vdM p ((k : Nat) : Int) = (p[k]?.map Rl.v).getD Vd.hold := by
      unfold vdM
      rw [if_neg (by omega)]
      rfl
    show PyData.tuple [.str (((p[k]?.map Rl.v).getD Vd.hold).str), .int (k : Nat)] = .tuple [.str (vdM p ((k : Nat) : Int)).str, .int (k : Nat)]
    rw [this]
  | none => rfl
theorem decM_lt (p : List Rl) (tr : List Bool) (f : Nat) : decM p tr f < p.length := by
  unfold decM
  split
  · rename_i k hk
    have := List.mem_of_find?_eq_some hk
    simp at this
    omega
  · omega
theorem choM_len {ts : List Tm} : ∀ tr ∈ choM ts, tr.length = ts.length := fun tr h => by
  obtain ⟨c, _, rfl⟩ := List.mem_map.mp h
  exact trS_len ts.length c _ (by simp)
def tvd (p : List Rl) (tr : List Bool) (f : Nat) : Vd := vdM p (decM p tr f)
def difT (a b : List Rl) (tr : List Bool) : Bool := decide (tvd a tr 0 ≠ tvd b tr (termsM [a]).length)
def difV (a b : List Rl) : Bool := (choM (termsM [a, b])).any (difT a b)
def sho (a : List Rl) : List Rl := ((List.range a.length).filter fun k => decide (k ∉ shM a)).map fun k => a.getD k ⟨.hold, []⟩
structure polOk (p : List Rl) : Prop where
  s : small p
  w : wfPol p
  t : ∀ r ∈ p, ∀ t ∈ r.ts, tOk t
structure pairOk (a b : List Rl) (d : Bool) : Prop where
  p : okP (patsM [a, b])
  no : d = false → dfM a b = none
  yes : d = true → ∃ f, dfM a b = some f ∧ Sound f ∧ vdM a (jI a f) ≠ vdM b (jI b f)
structure lawOk (a b : List Rl) : Prop where
  oa : polOk a
  ob : polOk b
  c : choOk (termsM [a, b])
  ab : pairOk a b (difV a b)
  ba : pairOk b a (difV a b)
  sp : okP (patsM [a])
  so : polOk (sho a)
  aa : okP (patsM [a, a])
  ash : okP (patsM [a, sho a])
  naa : dfM a a = none
  nas : dfM a (sho a) = none
section
variable {P : Program} {w : World} {K : PySem.W.Frag} {mg : Str → Option Value} {base : Heap}
def d_law : List PyData → PyData → Prop := fun ds r => ∃ ns : List Int, lawOk (polM ns 0) (secM ns (polM ns 0)) ∧ ds = [scrD ns] ∧ r = .bool true
theorem ok_law {f : Addr} {fd : FuncData} (Fn : FnP K "law" s_law f fd) (bn : BN mg) (f1 : FnF P w K mg base "_law_policy" 5 d_law_policy) (f2 : FnF P w K mg base "_law_second" 6 d_law_second) (f3 : FnF P w K mg base "_law_all_terms" 1 d_law_all_terms) (f4 : FnF P w K mg base "_law_choices" 5 d_law_choices) (f5 : FnF P w K mg base "_law_verdict" 1 d_law_verdict) (f6 : FnF P w K mg base "_law_decider" 1 d_law_decider) (f7 : FnF P w K mg base "difference" 9 d_difference) (f8 : FnF P w K mg base "_law_is_sound" 3 d_law_is_sound) (f9 : FnF P w K mg base "_law_judged" 3 d_law_judged) (f10 : FnF P w K mg base "shadowed" 9 d_shadowed) : FnOk P w K mg base CX0 10 f fd ["_law_script"] (SpD K d_law) := by
  refine fn_ok Fn c_law (fun ds r ⟨_, _, h, _⟩ => by rw [h]; rfl) fun X F xd ds r ⟨ns, ok, h, hr⟩ => ?_
  subst h hr
  have hpl : (polM ns 0).length ≤ 4 := ok.oa.s.r
  refine set_ F xd 1 (d := dP (polM ns 0)) (ca4 F f1 (nm F 0) e_int e_int e_int ⟨ns, 0, by decide, rfl, rfl⟩) ?_
  refine set_ F xd 2 (d := dP (secM ns (polM ns 0))) (ca2 F f2 (nm F 0) (nm F 1) ⟨ns, _, hpl, rfl, rfl⟩) ?_
  generalize secM ns (polM ns 0) = b at ok ⊢
  generalize polM ns 0 = a at ok hpl ⊢
  refine set_ F xd 3 (d := .list ((termsM [a, b]).map dT)) (ca1 F f3 (li2 (nm F 1) (nm F 2)) ⟨[a, b], by simp, by simpa using ⟨ok.oa.s, ok.ob.s⟩, rfl, rfl⟩) ?_
  refine set_ F xd 4 (d := dN (termsM [a]).length) (e_cast (e_lenL F bn (ds := (termsM [a]).map dT) (ca1 F f3 (li1 (nm F 1)) ⟨[a], by simp, by simpa using ok.oa.s, rfl, rfl⟩) rfl) (by simp)) ?_
  refine set_ F xd 5 (d := .bool false) e_bool ?_
  have hcl := ok.c.l
  refine forN F xd 6 (choM (termsM [a, b])) dBs (src_list (ca1 F f4 (nm F 3) ⟨_, ok.c, rfl, rfl⟩)) (fun n Γ' => ∃ s6 s7, Γ' = [.dat (scrD ns), .dat (dP a), .dat (dP b), .dat (.list ((termsM [a, b]).map dT)), .dat (dN (termsM [a]).length), .dat (.bool (((choM (termsM [a, b])).take n).any (difT a b))), s6, s7, .un, .un, .un, .un, .un, .un]) ⟨_, _, rfl⟩ ?_ ?_
  · rintro n tr Γ' ht ⟨s6, s7, rfl⟩
    have htl := choM_len tr (List.mem_of_getElem? ht)
    rw [take_snoc ht, List.any_append]
    refine set_ F xd 7 (d := .str (tvd a tr 0).str) (ca2 F f5 (nm F 1) (ca3 F f6 (nm F 1) (nm F 6) e_int ⟨a, tr, 0, ok.oa.s, by omega, rfl, rfl⟩) ⟨a, _, decM_lt _ _ _, rfl, rfl⟩) ?_
    refine when_ (v := difT a b tr) (t_cast (t_ne (nm F 7) (ca2 F f5 (nm F 2) (ca3 F f6 (nm F 2) (nm F 6) (nm F 4) ⟨b, tr, (termsM [a]).length, ok.ob.s, by omega, rfl, rfl⟩) ⟨b, _, decM_lt _ _ _, rfl, rfl⟩) (.str _ _)) ?_) (fun h => ?_) (fun h => ?_)
    · unfold difT
      rw [decide_not]
      exact congrArg not (decide_eq_decide.mpr ⟨fun e => vd_inj _ _ e, fun e => by rw [show vdM b (decM b tr (termsM [a]).length) = tvd a tr 0 from e.symm]⟩)
    · have e : (((choM (termsM [a, b])).take n).any (difT a b) || [tr].any (difT a b)) = true := by simp [h]
      rw [e]
      exact set_ F xd 5 (d := .bool true) e_bool (ss_nil (ss_nil ⟨_, _, rfl⟩))
    · have e : (((choM (termsM [a, b])).take n).any (difT a b) || [tr].any (difT a b)) = ((choM (termsM [a, b])).take n).any (difT a b) := by simp [h]
      rw [e]
      exact ss_nil ⟨_, _, rfl⟩
  rintro Γ' ⟨s6, s7, rfl⟩
  rw [List.take_length]
  have hD : (choM (termsM [a, b])).any (difT a b) = difV a b := rfl
  rw [hD]
  have hpair : ∀ x ∈ [(a, b), (b, a)], polOk x.1 ∧ polOk x.2 ∧ pairOk x.1 x.2 (difV a b) := fun x hx => by
    simp only [List.mem_cons, List.not_mem_nil, or_false] at hx
    rcases hx with rfl | rfl
    · exact ⟨ok.oa, ok.ob, ok.ab⟩
    · exact ⟨ok.ob, ok.oa, ok.ba⟩
  generalize difV a b = D at hpair
  refine forN2 F xd 8 9 [(a, b), (b, a)] (fun x => dP x.1) (fun x => dP x.2) (src_list (li2 (tu2 (nm F 1) (nm F 2)) (tu2 (nm F 2) (nm F 1)))) (fun n Γ' => ∃ s8 s9 s10, Γ' = [.dat (scrD ns), .dat (dP a), .dat (dP b), .dat (.list ((termsM [a, b]).map dT)), .dat (dN (termsM [a]).length), .dat (.bool D), s6, s7, s8, s9, s10, .un, .un, .un]) ⟨_, _, _, rfl⟩ ?_ ?_
  · rintro n x Γ' hx ⟨s8, s9, s10, rfl⟩
    obtain ⟨o1, o2, po⟩ := hpair x (List.mem_of_getElem? hx)
    refine set_ F xd 10 (d := dO dF (dfM x.1 x.2)) (ca2 F f7 (nm F 8) (nm F 9) ⟨x.1, x.2, o1.w, o1.s, o2.w, o2.s, po.p, rfl, rfl⟩) ?_
    refine if_ (t_not (t_val (nm F 5))) (fun h => ?_) (fun h => ?_)
    · have hDf : D = false := by simpa using h
      refine when_ (v := false) (t_cast (t_isnt (nm F 10)) ?_) (fun h => by cases h) (fun _ => ss_nil (ss_nil ⟨_, _, _, rfl⟩))
      rw [none_dO _ (fun _ => rfl), po.no hDf]
      rfl
    · have hDt : D = true := by simpa using h
      obtain ⟨f, e, sf, ne⟩ := po.yes hDt
      rw [e]
      have fk : fOk f := ⟨sf.nm⟩
      refine when_ (v := false) (t_cast (t_or2 (v := false) (t_not (t_val (ca1 F f8 (nm F 10) ⟨f, sf, rfl, rfl⟩))) fun _ => t_cast (t_eq (e_ixT (ca2 F f9 (nm F 8) (nm F 10) ⟨x.1, f, o1.s, o1.t, fk, rfl, (jdM_eq x.1 f).symm⟩) e_int rfl) (e_ixT (ca2 F f9 (nm F 9) (nm F 10) ⟨x.2, f, o2.s, o2.t, fk, rfl, (jdM_eq x.2 f).symm⟩) e_int rfl) (.str _ _)) ?_) rfl) (fun h => by cases h) (fun _ => ss_nil (ss_nil ⟨_, _, _, rfl⟩))
      exact decide_eq_false fun h => ne (vd_inj _ _ h)
  rintro Γ' ⟨s8, s9, s10, rfl⟩
  refine set_ F xd 11 (d := .list ((shM a).map dN)) (ca1 F f10 (nm F 1) ⟨a, ok.oa.w, ok.oa.s, ok.sp, rfl, rfl⟩) ?_
  refine set_ F xd 12 (d := dP (sho a)) ?_ ?_
  · refine e_cast (e_tupleL F bn (lcN F 13 (List.range a.length) (fun (i : Nat) => .int (0 + (i : Int))) (src_rng1 F bn (n := (a.length : Nat)) (e_cast (e_lenT F bn (ds := a.map dR) (nm F 1) rfl) (by simp)) (by omega) (by omega) rfl) (fun k => decide (k ∉ shM a)) (fun k => dR (a.getD k ⟨.hold, []⟩)) (fun Y FY k hk => .one ?_) (fun Y FY k hk _ => ?_) (by simp; omega)) rfl) (by simp [dP, sho, Function.comp_def])
    · refine t_cast (t_nin (u := .int (0 + (k : Int))) (us := ((shM a).map fun (n : Nat) => (n : Int)).map V.int) (nm FY 13) (nm FY 11) rfl rfl (by simp [flatD, Function.comp_def])) ?_
      rw [inV_ints, show (0 + (k : Int)) = (k : Nat) by omega, nat_in, decide_not]
    · have hk' : k < a.length := by simpa using hk
      have hg : a[k]? = some a[k] := List.getElem?_eq_getElem hk'
      have e : a.getD k ⟨.hold, []⟩ = a[k] := by rw [List.getD_eq_getElem?_getD, hg]; rfl
      rw [e]
      exact e_ixT (ds := a.map dR) (nm FY 1) (nm FY 13) (by rw [show (0 + (k : Int)) = (k : Nat) by omega]; exact atI_nn (by rw [List.getElem?_map, hg]; rfl))
  refine ret (d := .bool true) (e_cast (e_and2 (u := true) (v := true) (e_cast (e_is (ca2 F f7 (nm F 1) (nm F 1) ⟨a, a, ok.oa.w, ok.oa.s, ok.oa.w, ok.oa.s, ok.aa, rfl, rfl⟩)) ?_) fun _ => e_cast (e_is (ca2 F f7 (nm F 1) (nm F 12) ⟨a, sho a, ok.oa.w, ok.oa.s, ok.so.w, ok.so.s, ok.ash, rfl, rfl⟩)) ?_) rfl) rfl
  · rw [none_dO _ (fun _ => rfl), ok.naa]
    rfl
  · rw [none_dO _ (fun _ => rfl), ok.nas]
    rfl
end
end Z
set_option Elab.async false
set_option linter.all false
set_option maxRecDepth 100000
set_option maxHeartbeats 1000000
namespace Z
open PySem PySem.Spec PyProof.Rows L2 Evl
/-! ### the policies that the law draws -/
def gB (b : Bd) : Prop := match b with
  | .num g _ n => 0 ≤ n ∧ n ≤ g.most
  | .could k => k ≠ .no
  | .nam p => okL p ∧ p.length ≤ 3
  | _ => True
theorem getD_in {α : Type} (l : List α) (i : Nat) (d : α) : l.getD i d ∈ d :: l := by
  rw [List.getD_eq_getElem?_getD]
  cases q : l[i]? with
  | none => simp
  | some a => exact List.mem_cons_of_mem _ (List.mem_of_getElem? q)
theorem rowM_len (c : Int) (n : Nat) : (rowM c n).length = n := by
  unfold rowM rowB rowS
  split <;> simp
theorem patM_ok (c : Int) : okL (patM c) ∧ (patM c).length ≤ 3 := by
  unfold patM
  constructor
  · intro b hb
    obtain ⟨x, _, rfl⟩ := List.mem_map.mp hb
    have := getD_in pbL (x % 5).toNat 97
    have sub : ∀ y ∈ (97 :: pbL : List Nat), y ∈ pb4 := by decide
    exact sub _ this
  · rw [List.length_map, rowM_len]
    have := and3 c
    omega
theorem gBody (c : Int) : gB (bodyM c) := by
  unfold bodyM
  split
  · rename_i h
    have h0 : 0 ≤ c % 9 := Int.emod_nonneg _ (by decide)
    show 0 ≤ numB (c % 9) (c / 9) ∧ numB (c % 9) (c / 9) ≤ (nfAt (c % 9)).most
    have hm : (0 < c % 9 ∧ (nfAt (c % 9)).most = 100) ∨ (c % 9 = 0 ∧ (nfAt (c % 9)).most = 2147483647) := by
      have : c % 9 = 0 ∨ c % 9 = 1 ∨ c % 9 = 2 ∨ c % 9 = 3 := by omega
      rcases this with e | e | e | e <;> rw [e]
      · exact .inr ⟨rfl, rfl⟩
      · exact .inl ⟨by decide, rfl⟩
      · exact .inl ⟨by decide, rfl⟩
      · exact .inl ⟨by decide, rfl⟩
    unfold numB
    split
    · have := getD_in [100, 8, 9, 4] (Builtin.bitAnd (c / 9 / 360) 3).toNat (0 : Int)
      have sub : ∀ y ∈ (0 :: [100, 8, 9, 4] : List Int), 0 ≤ y ∧ y ≤ 100 := by decide
      have := sub _ this
      unfold n2At
      omega
    · split
      · rename_i h2
        have := getD_in [2147483647, 100, 99, 0] (Builtin.bitAnd (c / 9 / 240) 3).toNat (0 : Int)
        have sub : ∀ y ∈ (0 :: [2147483647, 100, 99, 0] : List Int), 0 ≤ y ∧ y ≤ 2147483647 := by decide
        have := sub _ this
        unfold n1At
        omega
      · have h1 : 0 ≤ c / 9 / 5 % 12 := Int.emod_nonneg _ (by decide)
        have h2 : c / 9 / 5 % 12 < 12 := Int.emod_lt_of_pos _ (by decide)
        omega
  split
  · trivial
  split
  · show kdAt (c / 9 % 6) ≠ .no
    have h0 : 0 ≤ c / 9 % 6 := Int.emod_nonneg _ (by decide)
    have h1 : c / 9 % 6 < 6 := Int.emod_lt_of_pos _ (by decide)
    have : c / 9 % 6 = 0 ∨ c / 9 % 6 = 1 ∨ c / 9 % 6 = 2 ∨ c / 9 % 6 = 3 ∨ c / 9 % 6 = 4 ∨ c / 9 % 6 = 5 := by omega
    rcases this with e | e | e | e | e | e <;> rw [e] <;> decide
  split
  · trivial
  · exact patM_ok _
/-- a drawn policy: n rules at most, two terms each, m terms in all -/
def nT (p : List Rl) : Nat := (p.map fun r => r.ts.length).sum
structure gP (p : List Rl) : Prop where
  l : p.length ≤ 3
  r : ∀ r ∈ p, r.ts.length ≤ 2 ∧ ∀ t ∈ r.ts, gB t.body
  n : nT p ≤ 4
theorem nT_le {p : List Rl} (h : ∀ r ∈ p, r.ts.length ≤ 2) : nT p ≤ 2 * p.length := by
  unfold nT
  induction p with
  | nil => simp
  | cons r p ih =>
    have := h r (by simp)
    have := ih fun q hq => h q (by simp [hq])
    simp only [List.map_cons, List.sum_cons, List.length_cons]
    omega
theorem gP_pol (ns : List Int) (at_ : Nat) : gP (polM ns at_) ∧ (polM ns at_).length ≤ 2 := by
  unfold polM
  generalize absI (cellM ns at_) = c
  have hl : (polC ns c at_).length ≤ 2 := by
    unfold polC
    rw [List.length_map, List.length_range]
    omega
  have hr : ∀ r ∈ polC ns c at_, r.ts.length ≤ 2 ∧ ∀ t ∈ r.ts, gB t.body := fun r hr => by
    obtain ⟨k, _, rfl⟩ := List.mem_map.mp hr
    refine ⟨?_, fun t ht => ?_⟩
    · show ((List.range (ntk c k)).map _).length ≤ 2
      rw [List.length_map, List.length_range]
      unfold ntk
      omega
    · obtain ⟨j, _, rfl⟩ := List.mem_map.mp ht
      exact gBody _
  have := nT_le fun r h => (hr r h).1
  exact ⟨⟨by omega, hr, by omega⟩, hl⟩
theorem nT_app (p q : List Rl) : nT (p ++ q) = nT p + nT q := by simp [nT]
theorem gP_sec (ns : List Int) {p : List Rl} (h : gP p) (hl : p.length ≤ 2) : gP (secM ns p) := by
  unfold secM secC
  generalize absI (cellM ns 6) = c
  split
  · exact (gP_pol ns 7).1
  rename_i h0
  have hp : 0 < p.length := by omega
  have i0 : 0 ≤ c / 5 % (p.length : Int) := Int.emod_nonneg _ (by omega)
  have i1 : c / 5 % (p.length : Int) < p.length := Int.emod_lt_of_pos _ (by omega)
  have hi : (c / 5 % (p.length : Int)).toNat < p.length := by omega
  generalize (c / 5 % (p.length : Int)).toNat = i at hi
  have hg : p[i]? = some p[i] := List.getElem?_eq_getElem hi
  have spl : nT p = nT (p.take i) + (p[i].ts.length + nT (p.drop (i + 1))) := by
    have e : p = p.take i ++ (p[i] :: p.drop (i + 1)) := by rw [← List.drop_eq_getElem_cons hi, List.take_append_drop]
    have := congrArg nT e
    rw [nT_app] at this
    rw [this]
    rfl
  have hn := h.n
  have mt : ∀ r ∈ p.take i, r ∈ p := fun r hr => List.mem_of_mem_take hr
  have md : ∀ r ∈ p.drop (i + 1), r ∈ p := fun r hr => List.mem_of_mem_drop hr
  split
  · refine ⟨?_, fun r hr => ?_, ?_⟩
    · rw [List.length_append, List.length_take, List.length_drop]
      omega
    · rcases List.mem_append.mp hr with hr | hr
      · exact h.r r (mt r hr)
      · exact h.r r (md r hr)
    · rw [nT_app]
      omega
  split
  · rw [hg]
    refine ⟨?_, fun r hr => ?_, ?_⟩
    · rw [List.length_append, List.length_append, List.length_take, List.length_drop, List.length_singleton]
      omega
    · rcases List.mem_append.mp hr with hr | hr
      · rcases List.mem_append.mp hr with hr | hr
        · exact h.r r (mt r hr)
        · have e := List.mem_singleton.mp hr
          rw [e]
          exact h.r p[i] (List.getElem_mem hi)
      · exact h.r r (md r hr)
    · rw [nT_app, nT_app]
      have : nT [(⟨.hold, ((some p[i]).map Rl.ts).getD []⟩ : Rl)] = p[i].ts.length := by simp [nT]
      omega
  · refine ⟨?_, fun r hr => ?_, ?_⟩
    · rw [List.length_append, List.length_singleton]
      omega
    · rcases List.mem_append.mp hr with hr | hr
      · exact h.r r hr
      · have e := List.mem_singleton.mp hr
        rw [e]
        exact ⟨by simp, by simp⟩
    · rw [nT_app]
      have : nT [(⟨.hold, []⟩ : Rl)] = 0 := by simp [nT]
      omega
theorem gB_wf {b : Bd} (h : gB b) : b.wf := by
  cases b with
  | num g s n => exact h
  | isk k => trivial
  | could k => exact h
  | act a => trivial
  | nam p =>
    obtain ⟨h1, h2⟩ := h
    refine ⟨by omega, fun b hb => ?_⟩
    have := h1 b hb
    simp [pb4] at this
    omega
theorem gP.pol {p : List Rl} (h : gP p) : polOk p where
  s := ⟨by have := h.l; omega, fun r hr => by have := (h.r r hr).1; omega⟩
  w := ⟨by have := h.l; omega, fun r hr => ⟨by have := (h.r r hr).1; omega, fun t ht => gB_wf ((h.r r hr).2 t ht)⟩⟩
  t := fun r hr t ht q e => by
    have := (h.r r hr).2 t ht
    rw [e] at this
    have := this.2
    omega
theorem addPle (acc : List Bts) (t : Tm) : (addP acc t).length ≤ acc.length + 1 := by
  unfold addP
  split
  · split <;> simp
  · omega
theorem addPsle : ∀ (ts : List Tm) (acc : List Bts), (ts.foldl addP acc).length ≤ acc.length + ts.length
  | [], acc => by simp
  | t :: ts, acc => by
    have := addPsle ts (addP acc t)
    have := addPle acc t
    rw [List.foldl_cons, List.length_cons]
    omega
theorem patsPle : ∀ (p : List Rl) (acc : List Bts), (patsP acc p).length ≤ acc.length + nT p
  | [], acc => by simp [patsP, nT]
  | r :: p, acc => by
    have h1 := patsPle p (patsR acc r)
    have h2 : (patsR acc r).length ≤ acc.length + r.ts.length := addPsle r.ts acc
    have e : patsP acc (r :: p) = patsP (patsR acc r) p := rfl
    have e2 : nT (r :: p) = r.ts.length + nT p := by simp [nT]
    rw [e, e2]
    omega
theorem patsM_okP {ps : List (List Rl)} (h : ∀ p ∈ ps, gP p) (hl : ps.length ≤ 2) : okP (patsM ps) := by
  refine okP_few (fun q hq => ?_) ?_
  · obtain ⟨p, hp, r, hr, t, ht, e⟩ := patsM_mem.mp hq
    have := ((h p hp).r r hr).2 t ht
    rw [e] at this
    exact this
  · match ps, hl, h with
    | [], _, _ => simp [patsM]
    | [p], _, h =>
      have := patsPle p []
      have := (h p (by simp)).n
      show (patsP [] p).length ≤ 8
      have e : ([] : List Bts).length = 0 := rfl
      omega
    | [p, q], _, h =>
      have h1 := patsPle p []
      have h2 := patsPle q (patsP [] p)
      have := (h p (by simp)).n
      have := (h q (by simp)).n
      show (patsP (patsP [] p) q).length ≤ 8
      have e : ([] : List Bts).length = 0 := rfl
      omega
theorem termsM_len (a b : List Rl) : (termsM [a, b]).length = nT a + nT b := by
  simp [termsM, nT, List.length_flatMap]
theorem termsM_mem {ps : List (List Rl)} {t : Tm} : t ∈ termsM ps ↔ ∃ p ∈ ps, ∃ r ∈ p, t ∈ r.ts := by
  simp [termsM]
theorem gT {a b : List Rl} (ga : gP a) (gb : gP b) : ∀ t ∈ termsM [a, b], gB t.body := fun t ht => by
  obtain ⟨p, hp, r, hr, h⟩ := termsM_mem.mp ht
  simp only [List.mem_cons, List.not_mem_nil, or_false] at hp
  rcases hp with rfl | rfl
  · exact (ga.r r hr).2 t h
  · exact (gb.r r hr).2 t h
theorem patsT_okP {ts : List Tm} (h : ∀ t ∈ ts, gB t.body) (hl : ts.length ≤ 8) : okP (patsT ts) := by
  refine okP_few (fun q hq => ?_) ?_
  · obtain ⟨t, ht, e⟩ := patsT_mem.mp hq
    have := h t ht
    rw [e] at this
    exact this
  · have := addPsle ts []
    show (ts.foldl addP []).length ≤ 8
    have e : ([] : List Bts).length = 0 := rfl
    omega
end Z
set_option Elab.async false
set_option linter.all false
set_option maxRecDepth 100000
set_option maxHeartbeats 1000000
namespace Z
open PySem PySem.Spec PyProof.Rows L2 Evl
/-! ### the numbers that are tried are enough -/
theorem pick (C : List Int) (v : Int) (h0 : ∃ c ∈ C, c ≤ v) : ∃ x ∈ C, x ≤ v ∧ ∀ c ∈ C, c ≤ v → c ≤ x := by
  induction C with
  | nil =>
    obtain ⟨_, h, _⟩ := h0
    simp at h
  | cons a C ih =>
    by_cases hC : ∃ c ∈ C, c ≤ v
    · obtain ⟨x, hx, hv, mx⟩ := ih hC
      by_cases ha : a ≤ v ∧ x < a
      · refine ⟨a, by simp, ha.1, fun c hc hcv => ?_⟩
        rcases List.mem_cons.mp hc with rfl | hc
        · omega
        · have := mx c hc hcv
          omega
      · refine ⟨x, by simp [hx], hv, fun c hc hcv => ?_⟩
        rcases List.mem_cons.mp hc with rfl | hc
        · omega
        · exact mx c hc hcv
    · obtain ⟨c, hc, hcv⟩ := h0
      rcases List.mem_cons.mp hc with rfl | hc
      · refine ⟨c, by simp, hcv, fun d hd hdv => ?_⟩
        rcases List.mem_cons.mp hd with rfl | hd
        · omega
        · exact absurd ⟨d, hd, hdv⟩ hC
      · exact absurd ⟨c, hc, hcv⟩ hC
theorem stM_same {x v n : Int} (h1 : x < n ↔ v < n) (h2 : x = n ↔ v = n) (s : Sg) : stM x s n = stM v s n := by
  cases s
  · exact decide_eq_decide.mpr h1
  · show (decide (x < n) || decide (x = n)) = (decide (v < n) || decide (v = n))
    rw [decide_eq_decide.mpr h1, decide_eq_decide.mpr h2]
  · exact decide_eq_decide.mpr h2
  · show (decide (x > n) || decide (x = n)) = (decide (v > n) || decide (v = n))
    rw [decide_eq_decide.mpr h2, decide_eq_decide.mpr (show x > n ↔ v > n by omega)]
  · exact decide_eq_decide.mpr (show x > n ↔ v > n by omega)
theorem pick_same {C : List Int} {x v n : Int} (hx : x ≤ v) (mx : ∀ c ∈ C, c ≤ v → c ≤ x) (h1 : n ≤ v → n ∈ C) (h2 : n + 1 ≤ v → n + 1 ∈ C) (s : Sg) : stM x s n = stM v s n := by
  refine stM_same ?_ ?_ s
  · constructor
    · intro h
      by_cases q : n + 1 ≤ v
      · have := mx _ (h2 q) q
        omega
      · by_cases q2 : n = v
        · have := mx _ (h1 (by omega)) (by omega)
          omega
        · omega
    · intro h
      omega
  · constructor
    · intro h
      by_cases q : n + 1 ≤ v
      · have := mx _ (h2 q) q
        omega
      · omega
    · intro h
      have := mx _ (h1 (by omega)) (by omega)
      omega
theorem putI_iff {ks : List Int} {k x : Int} : x ∈ putI ks k ↔ x ∈ ks ∨ x = k := by
  unfold putI
  split
  · rename_i h
    constructor
    · exact .inl
    · rintro (h1 | rfl)
      · exact h1
      · exact h
  · simp
theorem putIf_mem {gr : Int} {ks : List Int} {k x : Int} : x ∈ putIf gr ks k ↔ x ∈ ks ∨ (x = k ∧ 0 ≤ k ∧ k ≤ gr) := by
  unfold putIf
  split
  · rename_i h
    rw [putI_iff]
    simp [h]
  · rename_i h
    simp [h]
theorem numS_mem {g : NF} {gr : Int} {ks : List Int} {t : Tm} {x : Int} : x ∈ numS g gr ks t ↔ x ∈ ks ∨ ∃ s n, t.body = .num g s n ∧ (x = n - 1 ∨ x = n ∨ x = n + 1) ∧ 0 ≤ x ∧ x ≤ gr := by
  unfold numS
  split
  · rename_i f s n e
    split
    · rename_i hf
      subst hf
      simp only [List.foldl_cons, List.foldl_nil, putIf_mem]
      constructor
      · rintro (((h | ⟨h3, h⟩) | ⟨h3, h⟩) | ⟨h3, h⟩)
        · exact .inl h
        · exact .inr ⟨s, n, e, .inl h3, h3 ▸ h⟩
        · exact .inr ⟨s, n, e, .inr (.inl h3), h3 ▸ h⟩
        · exact .inr ⟨s, n, e, .inr (.inr h3), h3 ▸ h⟩
      · rintro (h | ⟨s', n', e', h, h2⟩)
        · exact .inl (.inl (.inl h))
        · rw [e] at e'
          injection e' with _ _ e3
          subst e3
          rcases h with rfl | rfl | rfl
          · exact .inl (.inl (.inr ⟨rfl, h2⟩))
          · exact .inl (.inr ⟨rfl, h2⟩)
          · exact .inr ⟨rfl, h2⟩
    · rename_i hf
      constructor
      · exact .inl
      · rintro (h | ⟨s', n', e', _⟩)
        · exact h
        · rw [e] at e'
          injection e' with e1
          exact absurd e1 hf
  · rename_i h0
    constructor
    · exact .inl
    · rintro (h | ⟨s', n', e', _⟩)
      · exact h
      · exact absurd e' (h0 _ _ _)
theorem numK_mem {ts : List Tm} {g : NF} {gr x : Int} : x ∈ numsM ts g gr ↔ x = 0 ∨ x = gr ∨ ∃ t ∈ ts, ∃ s n, t.body = .num g s n ∧ (x = n - 1 ∨ x = n ∨ x = n + 1) ∧ 0 ≤ x ∧ x ≤ gr := by
  have key : ∀ (ts : List Tm) (ks : List Int), x ∈ ts.foldl (numS g gr) ks ↔ x ∈ ks ∨ ∃ t ∈ ts, ∃ s n, t.body = .num g s n ∧ (x = n - 1 ∨ x = n ∨ x = n + 1) ∧ 0 ≤ x ∧ x ≤ gr := fun ts => by
    induction ts with
    | nil => intro ks; simp
    | cons t ts ih =>
      intro ks
      rw [List.foldl_cons, ih, numS_mem]
      simp only [List.mem_cons, exists_eq_or_imp]
      exact or_assoc
  unfold numsM numK
  rw [(List.mergeSort_perm _ _).mem_iff, key, putI_iff, putI_iff]
  simp [or_assoc]
theorem numL_mem {ts : List Tm} {g : NF} {gr x : Int} : x ∈ numL ts g gr ↔ x = 0 ∨ x = gr ∨ ∃ t ∈ ts, ∃ s n, t.body = .num g s n ∧ x ∈ numT gr n := by
  have key : ∀ (ts : List Tm) (ks : List Int), x ∈ ts.foldl (numLS g gr) ks ↔ x ∈ ks ∨ ∃ t ∈ ts, ∃ s n, t.body = .num g s n ∧ x ∈ numT gr n := fun ts => by
    induction ts with
    | nil => intro ks; simp
    | cons t ts ih =>
      intro ks
      have e : x ∈ numLS g gr ks t ↔ x ∈ ks ∨ ∃ s n, t.body = .num g s n ∧ x ∈ numT gr n := by
        unfold numLS
        split
        · rename_i f s n e
          split
          · rename_i hf
            subst hf
            rw [List.mem_append]
            refine or_congr Iff.rfl ⟨fun h => ⟨s, n, e, h⟩, fun ⟨s', n', e', h⟩ => ?_⟩
            rw [e] at e'
            injection e' with _ _ e3
            rw [e3]
            exact h
          · rename_i hf
            refine ⟨.inl, fun h => h.elim id fun ⟨s', n', e', _⟩ => ?_⟩
            rw [e] at e'
            injection e' with e1
            exact absurd e1 hf
        · rename_i h0
          exact ⟨.inl, fun h => h.elim id fun ⟨s', n', e', _⟩ => absurd e' (h0 _ _ _)⟩
      rw [List.foldl_cons, ih, e]
      simp only [List.mem_cons, exists_eq_or_imp]
      exact or_assoc
  unfold numL srt
  rw [(List.mergeSort_perm _ _).mem_iff, key]
  simp [or_assoc]
theorem numsM_rng {ts : List Tm} {g : NF} {gr x : Int} (h0 : 0 ≤ gr) (h : x ∈ numsM ts g gr) : 0 ≤ x ∧ x ≤ gr := by
  rcases numK_mem.mp h with rfl | rfl | ⟨_, _, _, _, _, _, h⟩
  · omega
  · omega
  · exact h
theorem numL_rng {ts : List Tm} {g : NF} {gr x : Int} (h0 : 0 ≤ gr) (hn : ∀ t ∈ ts, ∀ s n, t.body = .num g s n → 0 ≤ n) (h : x ∈ numL ts g gr) : 0 ≤ x ∧ x ≤ gr := by
  rcases numL_mem.mp h with rfl | rfl | ⟨t, ht, s, n, e, h⟩
  · omega
  · omega
  · have := hn t ht s n e
    simp only [numT, List.mem_cons, List.not_mem_nil, or_false] at h
    unfold minI maxI at h
    rcases h with rfl | rfl | rfl
    · split <;> split <;> omega
    · split <;> omega
    · split <;> omega
/-- the candidates of the program, of the law -/
theorem prog_pick {ts : List Tm} {g : NF} {gr v : Int} (h0 : 0 ≤ v) (h1 : v ≤ gr) (hn : ∀ t ∈ ts, ∀ s n, t.body = .num g s n → 0 ≤ n) :
    ∃ x ∈ numsM ts g gr, x ≤ v ∧ (∀ c ∈ numsM ts g gr, c ≤ v → c ≤ x) ∧ ∀ t ∈ ts, ∀ s n, t.body = .num g s n → stM x s n = stM v s n := by
  obtain ⟨x, hx, hv, mx⟩ := pick (numsM ts g gr) v ⟨0, numK_mem.mpr (.inl rfl), h0⟩
  refine ⟨x, hx, hv, mx, fun t ht s n e => pick_same hv mx (fun h => ?_) (fun h => ?_) s⟩
  · exact numK_mem.mpr (.inr (.inr ⟨t, ht, s, n, e, .inr (.inl rfl), hn t ht s n e, by omega⟩))
  · exact numK_mem.mpr (.inr (.inr ⟨t, ht, s, n, e, .inr (.inr rfl), by have := hn t ht s n e; omega, by omega⟩))
theorem law_pick {ts : List Tm} {g : NF} {gr v : Int} (h0 : 0 ≤ v) (h1 : v ≤ gr) (more : List Int) :
    ∃ x ∈ numL ts g gr ++ more, x ≤ v ∧ (∀ c ∈ numL ts g gr ++ more, c ≤ v → c ≤ x) ∧ ∀ t ∈ ts, ∀ s n, t.body = .num g s n → stM x s n = stM v s n := by
  obtain ⟨x, hx, hv, mx⟩ := pick (numL ts g gr ++ more) v ⟨0, List.mem_append_left _ (numL_mem.mpr (.inl rfl)), h0⟩
  refine ⟨x, hx, hv, mx, fun t ht s n e => pick_same hv mx (fun h => ?_) (fun h => ?_) s⟩
  · refine List.mem_append_left _ (numL_mem.mpr (.inr (.inr ⟨t, ht, s, n, e, ?_⟩)))
    have : minI gr n = n := by unfold minI; split <;> omega
    simp [numT, this]
  · refine List.mem_append_left _ (numL_mem.mpr (.inr (.inr ⟨t, ht, s, n, e, ?_⟩)))
    have : minI gr (n + 1) = n + 1 := by unfold minI; split <;> omega
    simp [numT, this]
end Z
set_option Elab.async false
set_option linter.all false
set_option maxRecDepth 100000
set_option maxHeartbeats 1000000
namespace Z
open PySem PySem.Spec PyProof.Rows L2 Evl
/-! ### terms, part by part -/
def HN (ts : List Tm) (g : NF) (v : Int) : Prop := ∀ t ∈ ts, ∀ s n, t.body = .num g s n → (stM v s n != t.neg) = true
def HK (ts : List Tm) (kk : Kd × List Kd) : Prop := ∀ t ∈ ts, (∀ k, t.body = .isk k → (decide (kk.1 = k) != t.neg) = true) ∧ ∀ k, t.body = .could k → (decide (k ∈ kk.2) != t.neg) = true
def HA (ts : List Tm) (A : List Ac) : Prop := ∀ t ∈ ts, (∀ a, t.body = .act a → (decide (a ∈ A) != t.neg) = true) ∧ ∀ s n, t.body = .num .acts s n → (stM A.length s n != t.neg) = true
def HW (ts : List Tm) (nm : Bts) : Prop := ∀ t ∈ ts, ∀ p, t.body = .nam p → (mt p nm != t.neg) = true
def okT (ts : List Tm) (f : Fx) : Bool := ts.all fun t => hM t f
structure Parts (ts : List Tm) (f : Fx) : Prop where
  s : HN ts .size f.size
  p : HN ts .pages f.pages
  d : HN ts .depth f.depth
  k : HK ts (f.kind, f.kinds)
  a : HA ts f.acts
  w : HW ts f.name
theorem hM_of {t : Tm} {f : Fx} {b : Bd} (e : t.body = b) : hM t f = (hb b f != t.neg) := by
  unfold hM
  rw [e]
theorem okT_iff {ts : List Tm} {f : Fx} : okT ts f = true ↔ Parts ts f := by
  unfold okT
  rw [List.all_eq_true]
  constructor
  · intro h
    refine ⟨fun t ht s n e => ?_, fun t ht s n e => ?_, fun t ht s n e => ?_, fun t ht => ⟨fun k e => ?_, fun k e => ?_⟩, fun t ht => ⟨fun k e => ?_, fun s n e => ?_⟩, fun t ht p e => ?_⟩ <;> exact (hM_of e) ▸ h t ht
  · intro P t ht
    cases e : t.body with
    | num g s n =>
      rw [hM_of e]
      cases g with
      | size => exact P.s t ht s n e
      | pages => exact P.p t ht s n e
      | acts => exact (P.a t ht).2 s n e
      | depth => exact P.d t ht s n e
    | isk k =>
      rw [hM_of e]
      exact (P.k t ht).1 k e
    | could k =>
      rw [hM_of e]
      exact (P.k t ht).2 k e
    | act a =>
      rw [hM_of e]
      exact (P.a t ht).1 a e
    | nam p =>
      rw [hM_of e]
      exact P.w t ht p e
theorem about_mem {ts : List Tm} {ws : List Str} {t : Tm} : t ∈ aboutM ts ws ↔ t ∈ ts ∧ t.body.word ∈ ws := by
  unfold aboutM
  rw [List.mem_filter, decide_eq_true_eq]
theorem nf_inj2 : ∀ f g : NF, f.str = g.str → f = g := by intro f g; cases f <;> cases g <;> first | exact fun _ => rfl | (intro h; exact absurd h (by decide +kernel))
theorem nf_not (g : NF) : ¬ ("is" : Str) = g.str ∧ ¬ ("could" : Str) = g.str ∧ ¬ ("act" : Str) = g.str ∧ ¬ ("name" : Str) = g.str := by cases g <;> decide +kernel
theorem nf_IC (g : NF) : ¬ g.str ∈ wIC := by cases g <;> decide +kernel
theorem w_num {b : Bd} {g : NF} (h : b.word = g.str) : ∃ s n, b = .num g s n := by
  cases b with
  | num f s n =>
    have : f = g := nf_inj2 _ _ h
    subst this
    exact ⟨s, n, rfl⟩
  | isk k => exact absurd h (nf_not g).1
  | could k => exact absurd h (nf_not g).2.1
  | act k => exact absurd h (nf_not g).2.2.1
  | nam k => exact absurd h (nf_not g).2.2.2
theorem w_IC {b : Bd} (h : b.word ∈ wIC) : (∃ k, b = .isk k) ∨ ∃ k, b = .could k := by
  cases b with
  | num f s n => exact absurd h (nf_IC f)
  | isk k => exact .inl ⟨k, rfl⟩
  | could k => exact .inr ⟨k, rfl⟩
  | act k => exact absurd h (by exact (by decide +kernel : ¬ ("act" : Str) ∈ wIC))
  | nam k => exact absurd h (by exact (by decide +kernel : ¬ ("name" : Str) ∈ wIC))
theorem w_AA {b : Bd} (h : b.word ∈ wAA) : (∃ a, b = .act a) ∨ ∃ s n, b = .num .acts s n := by
  cases b with
  | num f s n =>
    cases f with
    | acts => exact .inr ⟨s, n, rfl⟩
    | size => exact absurd h (by exact (by decide +kernel : ¬ ("size" : Str) ∈ wAA))
    | pages => exact absurd h (by exact (by decide +kernel : ¬ ("pages" : Str) ∈ wAA))
    | depth => exact absurd h (by exact (by decide +kernel : ¬ ("depth" : Str) ∈ wAA))
  | isk k => exact absurd h (by exact (by decide +kernel : ¬ ("is" : Str) ∈ wAA))
  | could k => exact absurd h (by exact (by decide +kernel : ¬ ("could" : Str) ∈ wAA))
  | act k => exact .inl ⟨k, rfl⟩
  | nam k => exact absurd h (by exact (by decide +kernel : ¬ ("name" : Str) ∈ wAA))
theorem fxN_num {g : NF} (hg : g ≠ .acts) (x : Int) : (fxN x).num g = x := by cases g <;> first | rfl | exact absurd rfl hg
theorem aboutN {ts : List Tm} {g : NF} {x : Int} (hg : g ≠ .acts) : ((aboutM ts [g.str]).all fun t => hM t (fxN x)) = true ↔ HN ts g x := by
  rw [List.all_eq_true]
  constructor
  · intro h t ht s n e
    have := h t (about_mem.mpr ⟨ht, by rw [e]; simp [Bd.word]⟩)
    rw [hM_of e] at this
    have e2 : hb (.num g s n) (fxN x) = stM x s n := by
      show stM ((fxN x).num g) s n = _
      rw [fxN_num hg]
    rw [← e2]
    exact this
  · intro h t ht
    obtain ⟨h1, h2⟩ := about_mem.mp ht
    obtain ⟨s, n, e⟩ := w_num (List.mem_singleton.mp h2)
    rw [hM_of e]
    have e2 : hb (.num g s n) (fxN x) = stM x s n := by
      show stM ((fxN x).num g) s n = _
      rw [fxN_num hg]
    rw [e2]
    exact h t h1 s n e
theorem aboutK {ts : List Tm} {kk : Kd × List Kd} : ((aboutM ts wIC).all fun t => hM t (fxK kk)) = true ↔ HK ts kk := by
  rw [List.all_eq_true]
  constructor
  · intro h t ht
    refine ⟨fun k e => ?_, fun k e => ?_⟩
    · exact (hM_of (f := fxK kk) e).symm.trans (h t (about_mem.mpr ⟨ht, by rw [e]; exact (by decide +kernel : ("is" : Str) ∈ wIC)⟩))
    · exact (hM_of (f := fxK kk) e).symm.trans (h t (about_mem.mpr ⟨ht, by rw [e]; exact (by decide +kernel : ("could" : Str) ∈ wIC)⟩))
  · intro h t ht
    obtain ⟨h1, h2⟩ := about_mem.mp ht
    rcases w_IC h2 with ⟨k, e⟩ | ⟨k, e⟩
    · rw [hM_of e]
      exact (h t h1).1 k e
    · rw [hM_of e]
      exact (h t h1).2 k e
theorem aboutA {ts : List Tm} {A : List Ac} : ((aboutM ts wAA).all fun t => hM t (fxA A)) = true ↔ HA ts A := by
  rw [List.all_eq_true]
  constructor
  · intro h t ht
    refine ⟨fun k e => ?_, fun s n e => ?_⟩
    · exact (hM_of (f := fxA A) e).symm.trans (h t (about_mem.mpr ⟨ht, by rw [e]; exact (by decide +kernel : ("act" : Str) ∈ wAA)⟩))
    · exact (hM_of (f := fxA A) e).symm.trans (h t (about_mem.mpr ⟨ht, by rw [e]; exact (by decide +kernel : ("acts" : Str) ∈ wAA)⟩))
  · intro h t ht
    obtain ⟨h1, h2⟩ := about_mem.mp ht
    rcases w_AA h2 with ⟨k, e⟩ | ⟨s, n, e⟩
    · rw [hM_of e]
      exact (h t h1).1 k e
    · rw [hM_of e]
      exact (h t h1).2 s n e
/-! ### the parts of fft -/
theorem nil_all {ts : List Tm} {ws : List Str} (h : (aboutM ts ws).isEmpty = true) (q : Tm → Bool) : (aboutM ts ws).all q = true := by
  rw [List.isEmpty_iff.mp h]
  rfl
theorem gr_nn (g : NF) : 0 ≤ g.gr := by cases g <;> decide
theorem ntf_sound {ts : List Tm} {g : NF} {x : Int} (hg : g ≠ .acts) (h : ntf ts g = some x) : 0 ≤ x ∧ x ≤ g.gr ∧ HN ts g x := by
  unfold ntf at h
  split at h
  · rename_i he
    cases h
    exact ⟨by omega, gr_nn g, (aboutN hg).mp (nil_all he _)⟩
  · have h1 := List.find?_some h
    obtain ⟨h2, h3⟩ := numsM_rng (gr_nn g) (List.mem_of_find?_eq_some h)
    exact ⟨h2, h3, (aboutN hg).mp h1⟩
theorem ntf_ex {ts : List Tm} {g : NF} {v : Int} (hg : g ≠ .acts) (wf : ∀ t ∈ ts, t.body.wf) (h0 : 0 ≤ v) (h1 : v ≤ g.gr) (h : HN ts g v) : (ntf ts g).isSome = true := by
  unfold ntf
  split
  · rfl
  · rw [List.find?_isSome]
    obtain ⟨x, hx, _, _, hs⟩ := prog_pick (ts := aboutM ts [g.str]) (g := g) h0 h1 (fun t ht s n e => by
      have := wf t (about_mem.mp ht).1
      rw [e] at this
      exact this.1)
    refine ⟨x, hx, (aboutN hg).mpr fun t ht s n e => ?_⟩
    rw [hs t (about_mem.mpr ⟨ht, by rw [e]; simp [Bd.word]⟩) s n e]
    exact h t ht s n e
theorem kc_kp : (∀ x ∈ kcM, x ∈ kpL) ∧ ∀ x ∈ kpL, x ∈ kcM := by decide +kernel
theorem ktf_sound {ts : List Tm} {kk : Kd × List Kd} (h : ktf ts = some kk) : kk ∈ kpL ∧ HK ts kk := by
  unfold ktf at h
  exact ⟨kc_kp.1 _ (List.mem_of_find?_eq_some h), aboutK.mp (List.find?_some (p := fun kk => (aboutM ts wIC).all fun t => hM t (fxK kk)) h)⟩
theorem ktf_ex {ts : List Tm} {kk : Kd × List Kd} (h0 : kk ∈ kpL) (h : HK ts kk) : (ktf ts).isSome = true := by
  unfold ktf
  rw [List.find?_isSome]
  exact ⟨kk, kc_kp.2 _ h0, aboutK.mpr h⟩
/-! acts -/
def nB (b : Bool) : Nat := if b then 1 else 0
theorem ak_all : ∀ x0 ∈ bb, ∀ x1 ∈ bb, ∀ x2 ∈ bb, ∀ x3 ∈ bb, ∀ x4 ∈ bb, ∀ x5 ∈ bb, nB x0 + 2 * nB x1 + 4 * nB x2 + 8 * nB x3 + 16 * nB x4 + 32 * nB x5 < 64 ∧ akM (nB x0 + 2 * nB x1 + 4 * nB x2 + 8 * nB x3 + 16 * nB x4 + 32 * nB x5) = ((acL6.zip [x0, x1, x2, x3, x4, x5]).filter (·.2)).map (·.1) := by decide +kernel
theorem ak_any (q : Ac → Bool) : ∃ b, b < 64 ∧ akM b = acL6.filter q := by
  obtain ⟨h1, h2⟩ := ak_all _ (bb_in (q .open_)) _ (bb_in (q .file)) _ (bb_in (q .link)) _ (bb_in (q .form)) _ (bb_in (q .fetch)) _ (bb_in (q .script))
  refine ⟨_, h1, ?_⟩
  rw [h2]
  show (([(Ac.open_, q .open_), (.file, q .file), (.link, q .link), (.form, q .form), (.fetch, q .fetch), (.script, q .script)] : List (Ac × Bool)).filter (·.2)).map (·.1) = [Ac.open_, .file, .link, .form, .fetch, .script].filter q
  cases e0 : q .open_ <;> cases e1 : q .file <;> cases e2 : q .link <;> cases e3 : q .form <;> cases e4 : q .fetch <;> cases e5 : q .script <;> simp [List.filter, e0, e1, e2, e3, e4, e5]
theorem ac_in6 (a : Ac) : a ∈ acL6 := by cases a <;> decide
theorem rep_mem {α : Type} {s : List α} {n : Nat} {a : α} : a ∈ s ++ (List.replicate n (s.take 1)).flatten ↔ a ∈ s := by
  rw [List.mem_append]
  refine ⟨fun h => h.elim id fun h => ?_, .inl⟩
  obtain ⟨l, hl, ha⟩ := List.mem_flatten.mp h
  have := (List.mem_replicate.mp hl).2
  subst this
  exact List.mem_of_mem_take ha
theorem rep_len {α : Type} {s : List α} {x : Int} (h : (s.length : Int) ≤ x) (hs : s = [] → x = 0) : ((s ++ (List.replicate (x - s.length).toNat (s.take 1)).flatten).length : Int) = x := by
  cases s with
  | nil =>
    have := hs rfl
    subst this
    rfl
  | cons a s =>
    have e : ∀ n : Nat, ((List.replicate n ((a :: s).take 1)).flatten).length = n := fun n => by
      induction n with
      | zero => rfl
      | succ n ih => rw [List.replicate_succ, List.flatten_cons, List.length_append, ih]; simp; omega
    rw [List.length_append, e]
    omega
theorem filt6 (A : List Ac) : (acL6.filter fun a => decide (a ∈ A)).length ≤ A.length := by
  refine nodup_le (List.Pairwise.filter _ (by decide : acL6.Nodup)) fun x hx => ?_
  simpa using (List.mem_filter.mp hx).2
theorem filt6_6 (q : Ac → Bool) : (acL6.filter q).length ≤ 6 := List.length_filter_le _ _
/-- what the terms see of acts -/
theorem HA_same {ts : List Tm} {A B : List Ac} (h1 : ∀ t ∈ ts, ∀ a, t.body = .act a → (a ∈ B ↔ a ∈ A)) (h2 : ∀ t ∈ ts, ∀ s n, t.body = .num .acts s n → stM B.length s n = stM A.length s n) (h : HA ts A) : HA ts B := fun t ht =>
  ⟨fun a e => by
    rw [decide_eq_decide.mpr (h1 t ht a e)]
    exact (h t ht).1 a e, fun s n e => by
    rw [h2 t ht s n e]
    exact (h t ht).2 s n e⟩
theorem atf_sound {ts : List Tm} {A : List Ac} (h : atf ts = some A) : A.length ≤ 1000 ∧ HA ts A := by
  unfold atf at h
  split at h
  · rename_i he
    cases h
    exact ⟨by simp, aboutA.mp (nil_all he _)⟩
  · refine ⟨?_, aboutA.mp (List.find?_some (p := fun a => (aboutM ts wAA).all fun t => hM t (fxA a)) h)⟩
    have hm := List.mem_of_find?_eq_some h
    obtain ⟨b, _, hb⟩ := List.mem_flatMap.mp hm
    obtain ⟨x, hx, rfl⟩ := List.mem_map.mp hb
    obtain ⟨hx1, hx2⟩ := List.mem_filter.mp hx
    have hr := numsM_rng (by decide) hx1
    have hge : ((akM b).length : Int) ≤ x ∧ (akM b = [] → x = 0) := by
      unfold akB at hx2
      simp only [Bool.or_eq_true, Bool.and_eq_true, decide_eq_true_eq] at hx2
      rcases hx2 with h | ⟨h, h2⟩
      · exact ⟨by omega, fun e => by rw [h, e]; rfl⟩
      · exact ⟨by omega, fun e => by rw [e] at h2; simp at h2⟩
    have := rep_len hge.1 hge.2
    unfold akX
    omega
theorem atf_ex {ts : List Tm} {A : List Ac} (wf : ∀ t ∈ ts, t.body.wf) (hl : A.length ≤ 1000) (h : HA ts A) : (atf ts).isSome = true := by
  unfold atf
  split
  · rfl
  · rw [List.find?_isSome]
    obtain ⟨b, hb, ek⟩ := ak_any fun a => decide (a ∈ A)
    have hks := filt6 A
    have hmem : ∀ a, a ∈ akM b ↔ a ∈ A := fun a => by
      rw [ek, List.mem_filter]
      simp [ac_in6]
    rw [← ek] at hks
    obtain ⟨x, hx, hv, mx, hs⟩ := prog_pick (ts := aboutM ts wAA ++ [⟨false, .num .acts .eq (akM b).length⟩]) (g := .acts) (gr := 1000) (v := (A.length : Int)) (by omega) (by omega) (fun t ht s n e => by
      rcases List.mem_append.mp ht with ht | ht
      · have := wf t (about_mem.mp ht).1
        rw [e] at this
        exact this.1
      · rw [List.mem_singleton.mp ht] at e
        injection e with _ _ e3
        omega)
    have hge : ((akM b).length : Int) ≤ x := mx _ (numK_mem.mpr (.inr (.inr ⟨_, List.mem_append_right _ (List.mem_singleton.mpr rfl), .eq, _, rfl, .inr (.inl rfl), by omega, by omega⟩))) (by omega)
    have h0 : akM b = [] → x = 0 := fun e => by
      have : A = [] := by
        apply List.eq_nil_iff_forall_not_mem.mpr
        intro a ha
        have := (hmem a).mpr ha
        rw [e] at this
        simp at this
      rw [this] at hv
      rw [e] at hge
      simp at hv hge
      omega
    refine ⟨akX (akM b) x, List.mem_flatMap.mpr ⟨b, List.mem_range.mpr hb, List.mem_map.mpr ⟨x, List.mem_filter.mpr ⟨hx, ?_⟩, rfl⟩⟩, aboutA.mpr (HA_same (A := A) (fun t ht a e => ?_) (fun t ht s n e => ?_) h)⟩
    · unfold akB
      simp only [Bool.or_eq_true, Bool.and_eq_true, decide_eq_true_eq]
      by_cases q : x = (akM b).length
      · exact .inl q
      · refine .inr ⟨by omega, ?_⟩
        cases e : akM b with
        | nil =>
          have := h0 e
          rw [e] at q
          simp at q
          omega
        | cons a r => simp
    · unfold akX
      rw [rep_mem]
      exact hmem a
    · have el : ((akX (akM b) x).length : Int) = x := rep_len hge h0
      rw [el]
      exact hs t (List.mem_append_left _ (about_mem.mpr ⟨ht, by rw [e]; exact (by decide +kernel : ("acts" : Str) ∈ wAA)⟩)) s n e
end Z
set_option Elab.async false
set_option linter.all false
set_option maxRecDepth 100000
set_option maxHeartbeats 1000000
namespace Z
open PySem PySem.Spec PyProof.Rows L2 Evl
/-! ### the search finds every state -/
abbrev stO (ps : List Bts) (nm : Bts) : Sts := nm.foldl (mvS ps) (stS ps)
section
variable {ps : List Bts} {ls : List Nat}
theorem nOk.bfs : ∀ (f : Nat) {ns : List (Sts × Bts)} (i : Nat), nOk ps ns → nOk ps (bfs ps ls f ns i)
  | 0, ns, i, h => h
  | f + 1, ns, i, h => by
    unfold Z.bfs
    cases q : ns[i]? with
    | none => exact h
    | some e =>
      have he := List.mem_of_getElem? q
      exact nOk.bfs f (i + 1) (nOk.steps (h.reach e he) ls h (h.len e he))
theorem bfs1_pre (e : Sts × Bts) (ns : List (Sts × Bts)) (b : Nat) : ∃ more, bfs1 ps e ns b = ns ++ more := by
  unfold bfs1
  split
  · exact ⟨[], by simp⟩
  · exact ⟨_, rfl⟩
theorem bfs_pre : ∀ (f : Nat) (ns : List (Sts × Bts)) (i : Nat), ∃ more, bfs ps ls f ns i = ns ++ more
  | 0, ns, i => ⟨[], by simp [bfs]⟩
  | f + 1, ns, i => by
    unfold bfs
    cases q : ns[i]? with
    | none => exact ⟨[], by simp⟩
    | some e =>
      obtain ⟨m1, h1⟩ := bfsE_pre (ps := ps) (e := e) ls ns
      obtain ⟨m2, h2⟩ := bfs_pre f (bfsE ps ls ns e) (i + 1)
      exact ⟨m1 ++ m2, by show bfs ps ls f (bfsE ps ls ns e) (i + 1) = _; rw [h2, h1, List.append_assoc]⟩
theorem bfsE_has (e : Sts × Bts) : ∀ (ls : List Nat) (ns : List (Sts × Bts)), ∀ b ∈ ls, mvS ps e.1 b ∈ (bfsE ps ls ns e).map (·.1)
  | [], ns, b, h => by simp at h
  | c :: ls, ns, b, h => by
    have hE : bfsE ps (c :: ls) ns e = bfsE ps ls (bfs1 ps e ns c) e := rfl
    rw [hE]
    rcases List.mem_cons.mp h with rfl | h
    · obtain ⟨m, hm⟩ := bfsE_pre (ps := ps) (e := e) ls (bfs1 ps e ns b)
      rw [hm, List.map_append]
      refine List.mem_append_left _ ?_
      unfold bfs1
      split
      · assumption
      · simp
    · exact bfsE_has e ls _ b h
def clo (ps : List Bts) (ls : List Nat) (ns : List (Sts × Bts)) (e : Sts × Bts) : Prop := ∀ b ∈ ls, mvS ps e.1 b ∈ ns.map (·.1)
theorem bfs_closed : ∀ (f : Nat) (ns : List (Sts × Bts)) (i : Nat), i ≤ ns.length → (∀ j e, j < i → ns[j]? = some e → clo ps ls ns e) → (bfs ps ls f ns i).length < i + f → ∀ e ∈ bfs ps ls f ns i, clo ps ls (bfs ps ls f ns i) e
  | 0, ns, i, h1, _, h3 => by
    unfold bfs at h3
    omega
  | f + 1, ns, i, h1, h2, h3 => by
    unfold bfs at h3 ⊢
    cases q : ns[i]? with
    | none =>
      show ∀ e ∈ ns, clo ps ls ns e
      intro e he
      obtain ⟨j, hj, rfl⟩ := List.mem_iff_getElem.mp he
      have := List.getElem?_eq_none_iff.mp q
      exact h2 j _ (by omega) (List.getElem?_eq_getElem hj)
    | some e =>
      rw [q] at h3
      have hi := (List.getElem?_eq_some_iff.mp q).1
      obtain ⟨m1, hm⟩ := bfsE_pre (ps := ps) (e := e) ls ns
      refine bfs_closed f (bfsE ps ls ns e) (i + 1) (by rw [hm, List.length_append]; omega) (fun j e' hj he' => ?_) (by have h4 : (bfs ps ls f (bfsE ps ls ns e) (i + 1)).length < i + (f + 1) := h3; omega)
      by_cases hji : j = i
      · subst hji
        rw [hm, List.getElem?_append_left hi, q] at he'
        cases he'
        exact fun b hb => bfsE_has e ls ns b hb
      · rw [hm, List.getElem?_append_left (by omega)] at he'
        intro b hb
        rw [hm, List.map_append]
        exact List.mem_append_left _ (h2 j e' (by omega) he' b hb)
theorem bfs_path : ∀ (f : Nat) {ns : List (Sts × Bts)} (i : Nat), (∀ x ∈ ns, x.1 = stO ps x.2 ∧ ∀ b ∈ x.2, b ∈ ls) → ∀ x ∈ bfs ps ls f ns i, x.1 = stO ps x.2 ∧ ∀ b ∈ x.2, b ∈ ls
  | 0, ns, i, h => h
  | f + 1, ns, i, h => by
    unfold bfs
    cases q : ns[i]? with
    | none => exact h
    | some e =>
      obtain ⟨e1, e2⟩ := h e (List.mem_of_getElem? q)
      refine bfs_path f (i + 1) ?_
      have : ∀ (l2 : List Nat), (∀ b ∈ l2, b ∈ ls) → ∀ {ns : List (Sts × Bts)}, (∀ x ∈ ns, x.1 = stO ps x.2 ∧ ∀ b ∈ x.2, b ∈ ls) → ∀ x ∈ bfsE ps l2 ns e, x.1 = stO ps x.2 ∧ ∀ b ∈ x.2, b ∈ ls := fun l2 => by
        induction l2 with
        | nil => exact fun _ _ h => h
        | cons b l2 ih =>
          intro hl ns h
          refine ih (fun c hc => hl c (by simp [hc])) (ns := bfs1 ps e ns b) fun x hx => ?_
          unfold bfs1 at hx
          split at hx
          · exact h x hx
          · rcases List.mem_append.mp hx with hx | hx
            · exact h x hx
            · rw [List.mem_singleton.mp hx]
              refine ⟨?_, fun c hc => ?_⟩
              · show mvS ps e.1 b = stO ps (e.2 ++ [b])
                rw [e1]
                simp [stO]
              · rcases List.mem_append.mp hc with hc | hc
                · exact e2 c hc
                · rw [List.mem_singleton.mp hc]
                  exact hl b (by simp)
      exact this ls (fun b hb => hb) h
theorem mvS_same {st : Sts} {b b' : Nat} (h : ∀ p ∈ ps, ∀ c ∈ p, c = 42 ∨ (c = b ↔ c = b')) : mvS ps st b = mvS ps st b' := by
  unfold mvS
  refine List.map_congr_left fun q hq => ?_
  have hp : q.1 ∈ ps := (List.of_mem_zip hq).1
  unfold mvd
  congr 1
  unfold tgt
  congr 1
  funext i
  cases e : q.1[i]? with
  | none => rfl
  | some c =>
    rcases h q.1 hp c (List.mem_of_getElem? e) with rfl | h
    · simp
    · simp [h]
theorem stO_ex {ns : List (Sts × Bts)} (h0 : stS ps ∈ ns.map (·.1)) (hc : ∀ e ∈ ns, clo ps ls ns e) (cov : ∀ b, ∃ b' ∈ ls, ∀ p ∈ ps, ∀ c ∈ p, c = 42 ∨ (c = b ↔ c = b')) (nm : Bts) : stO ps nm ∈ ns.map (·.1) := by
  refine snoc_ind (Q := fun nm => stO ps nm ∈ ns.map (·.1)) h0 (fun nm b ih => ?_) nm
  obtain ⟨b', hb', hs⟩ := cov b
  have e : stO ps (nm ++ [b]) = mvS ps (stO ps nm) b := by simp [stO]
  rw [e, mvS_same hs]
  obtain ⟨x, hx, ex⟩ := List.mem_map.mp ih
  rw [← ex]
  exact hc x hx b' hb'
end
theorem start_ok (ps : List Bts) : nOk ps [(stS ps, [])] := ⟨fun x hx => by simp at hx; rw [hx]; exact ⟨[], rfl⟩, by simp, by simp⟩
section
variable {ps : List Bts}
/-- the law's search -/
theorem addL_in {acc : List Nat} {b x : Nat} (h : x ∈ acc) : x ∈ addL acc b := by
  unfold addL
  split
  · exact List.mem_append_left _ h
  · exact h
theorem addL_new {acc : List Nat} {b : Nat} (h : b ≠ 42) : b ∈ addL acc b := by
  unfold addL
  by_cases q : b ∈ acc
  · rw [if_neg (fun z => z.1 q)]
    exact q
  · rw [if_pos ⟨q, h⟩]
    simp
theorem addLs_in {x : Nat} : ∀ (p : Bts) {acc : List Nat}, (x ∈ acc ∨ (x ∈ p ∧ x ≠ 42)) → x ∈ p.foldl addL acc
  | [], acc, h => h.elim id fun h => by simp at h
  | b :: p, acc, h => by
    refine addLs_in p (acc := addL acc b) ?_
    rcases h with h | ⟨h, h2⟩
    · exact .inl (addL_in h)
    · rcases List.mem_cons.mp h with rfl | h
      · exact .inl (addL_new h2)
      · exact .inr ⟨h, h2⟩
theorem ltL_in {x : Nat} : ∀ (ps : List Bts) {acc : List Nat}, (x ∈ acc ∨ ∃ p ∈ ps, x ∈ p ∧ x ≠ 42) → x ∈ ps.foldl (fun acc p => p.foldl addL acc) acc
  | [], acc, h => h.elim id fun ⟨p, hp, _⟩ => by simp at hp
  | q :: ps, acc, h => by
    refine ltL_in ps (acc := q.foldl addL acc) ?_
    rcases h with h | ⟨p, hp, h⟩
    · exact .inl (addLs_in q (.inl h))
    · rcases List.mem_cons.mp hp with rfl | hp
      · exact .inl (addLs_in p (.inr h))
      · exact .inr ⟨p, hp, h⟩
theorem lawCov (ok : okP ps) (b : Nat) : ∃ b' ∈ ltL ps, ∀ p ∈ ps, ∀ c ∈ p, c = 42 ∨ (c = b ↔ c = b') := by
  by_cases h : ∃ p ∈ ps, b ∈ p ∧ b ≠ 42
  · exact ⟨b, ltL_in ps (.inr h), fun p hp c hc => .inr Iff.rfl⟩
  · refine ⟨0, ltL_in ps (.inl (by simp)), fun p hp c hc => ?_⟩
    have := (ok.2.1 p hp).2 c hc
    simp at this
    by_cases q : c = 42
    · exact .inl q
    · refine .inr ⟨fun e => ?_, fun e => by omega⟩
      subst e
      exact absurd ⟨p, hp, hc, q⟩ h
theorem stsN_ok (ok : okP ps) : (stsN ps).length ≤ 512 := (nOk.bfs (ls := ltL ps) 513 0 (start_ok ps)).le ok
theorem stsM_ex (ok : okP ps) (nm : Bts) : stO ps nm ∈ stsM ps := by
  have hl := stsN_ok ok
  refine stO_ex (ls := ltL ps) ?_ (bfs_closed 513 [(stS ps, [])] 0 (by simp) (fun j e h => by omega) ?_) (lawCov ok) nm
  · obtain ⟨m, hm⟩ := bfs_pre (ps := ps) (ls := ltL ps) 513 [(stS ps, [])] 0
    rw [hm]
    simp
  · show (stsN ps).length < 0 + 513
    omega
theorem stsM_of (ok : okP ps) : ∀ s ∈ stsM ps, ∃ nm : Bts, s = stO ps nm ∧ nm.length ≤ 511 ∧ ∀ b ∈ nm, b ≤ 255 := fun s hs => by
  obtain ⟨x, hx, rfl⟩ := List.mem_map.mp hs
  obtain ⟨h1, h2⟩ := bfs_path (ls := ltL ps) 513 0 (fun x hx => by simp at hx; rw [hx]; exact ⟨rfl, by simp⟩) x hx
  have h3 := (nOk.bfs (ls := ltL ps) 513 0 (start_ok ps)).len x hx
  have hl := stsN_ok ok
  refine ⟨x.2, h1, by have h4 : x.2.length < (stsN ps).length := h3; omega, fun b hb => ?_⟩
  rcases (ltL_ok ps [0]).2 b (h2 b hb) with h | ⟨p, hp, h⟩
  · simp at h; omega
  · have := (ok.2.1 p hp).2 b h
    simp at this
    omega
/-- the program's search -/
theorem progCov (ok : okP ps) (b : Nat) : ∃ b' ∈ othr ps ++ ltr256 ps, ∀ p ∈ ps, ∀ c ∈ p, c = 42 ∨ (c = b ↔ c = b') := by
  by_cases h : ∃ p ∈ ps, b ∈ p
  · refine ⟨b, List.mem_append_right _ ?_, fun p hp c hc => .inr Iff.rfl⟩
    obtain ⟨p, hp, hb⟩ := h
    have := (ok.2.1 p hp).2 b hb
    simp at this
    unfold ltr256
    rw [List.mem_filter, List.mem_range]
    exact ⟨by omega, List.any_eq_true.mpr ⟨p, hp, decide_eq_true hb⟩⟩
  · have h0 : 0 ∈ (List.range 256).filter fun b => !ps.any fun p => decide (b ∈ p) := by
      rw [List.mem_filter, List.mem_range]
      refine ⟨by omega, ?_⟩
      rw [Bool.not_eq_true', List.any_eq_false]
      intro p hp
      have : 0 ∉ p := fun h0 => by
        have := (ok.2.1 p hp).2 0 h0
        simp at this
      simpa using this
    obtain ⟨o, ho⟩ : ∃ o, o ∈ othr ps := by
      unfold othr
      cases e : (List.range 256).filter fun b => !ps.any fun p => decide (b ∈ p) with
      | nil => rw [e] at h0; simp at h0
      | cons a l => exact ⟨a, by simp⟩
    refine ⟨o, List.mem_append_left _ ho, fun p hp c hc => .inr ⟨fun e => ?_, fun e => ?_⟩⟩
    · subst e
      exact absurd ⟨p, hp, hc⟩ h
    · subst e
      have := (List.mem_filter.mp (List.mem_of_mem_take ho)).2
      rw [Bool.not_eq_true', List.any_eq_false] at this
      exact absurd (decide_eq_true hc) (this p hp)
theorem nmsM_le (ok : okP ps) : (nmsM ps).length ≤ 512 := (nOk.bfs (ls := othr ps ++ ltr256 ps) 600 0 (start_ok ps)).le ok
theorem nmsM_ex (ok : okP ps) (nm : Bts) : ∃ e ∈ nmsM ps, e.1 = stO ps nm := by
  have hl := nmsM_le ok
  have := stO_ex (ls := othr ps ++ ltr256 ps) (ns := nmsM ps) ?_ (bfs_closed 600 [(stS ps, [])] 0 (by simp) (fun j e h => by omega) ?_) (progCov ok) nm
  · obtain ⟨x, hx, e⟩ := List.mem_map.mp this
    exact ⟨x, hx, e⟩
  · obtain ⟨m, hm⟩ := bfs_pre (ps := ps) (ls := othr ps ++ ltr256 ps) 600 [(stS ps, [])] 0
    show _ ∈ (bfs ps (othr ps ++ ltr256 ps) 600 [(stS ps, [])] 0).map _
    rw [hm]
    simp
  · show (nmsM ps).length < 0 + 600
    omega
theorem nmsM_of (ok : okP ps) : ∀ e ∈ nmsM ps, e.1 = stO ps e.2 ∧ e.2.length ≤ 511 ∧ ∀ b ∈ e.2, b ≤ 255 := fun x hx => by
  obtain ⟨h1, h2⟩ := bfs_path (ls := othr ps ++ ltr256 ps) 600 0 (fun x hx => by simp at hx; rw [hx]; exact ⟨rfl, by simp⟩) x hx
  have h3 := (nOk.bfs (ls := othr ps ++ ltr256 ps) 600 0 (start_ok ps)).len x hx
  have hl := nmsM_le ok
  refine ⟨h1, by have h4 : x.2.length < (nmsM ps).length := h3; omega, fun b hb => ?_⟩
  rcases List.mem_append.mp (h2 b hb) with h | h
  · have := (List.mem_filter.mp (List.mem_of_mem_take h)).1
    simp at this
    omega
  · have := (List.mem_filter.mp h).1
    simp at this
    omega
/-! ### the table -/
theorem tab_of : ∀ (ns : List (Sts × Bts)) (tb : List (List Bool × Bts)), ∀ e ∈ ns.foldl (tabS ps) tb, e ∈ tb ∨ ∃ x ∈ ns, e = (accS ps x.1, x.2)
  | [], tb, e, h => .inl h
  | x :: ns, tb, e, h => by
    rcases tab_of ns (tabS ps tb x) e h with h | ⟨y, hy, h⟩
    · unfold tabS at h
      split at h
      · exact .inl h
      · rcases List.mem_append.mp h with h | h
        · exact .inl h
        · exact .inr ⟨x, by simp, List.mem_singleton.mp h⟩
    · exact .inr ⟨y, by simp [hy], h⟩
theorem tab_ex : ∀ (ns : List (Sts × Bts)) (tb : List (List Bool × Bts)) (k : List Bool), (k ∈ tb.map (·.1) ∨ ∃ x ∈ ns, k = accS ps x.1) → k ∈ (ns.foldl (tabS ps) tb).map (·.1)
  | [], tb, k, h => h.elim id fun ⟨x, hx, _⟩ => by simp at hx
  | x :: ns, tb, k, h => by
    refine tab_ex ns (tabS ps tb x) k ?_
    have mono : ∀ k, k ∈ tb.map (·.1) → k ∈ (tabS ps tb x).map (·.1) := fun k hk => by
      unfold tabS
      split
      · exact hk
      · rw [List.map_append]
        exact List.mem_append_left _ hk
    rcases h with h | ⟨y, hy, rfl⟩
    · exact .inl (mono k h)
    · rcases List.mem_cons.mp hy with rfl | hy
      · refine .inl ?_
        unfold tabS
        split
        · assumption
        · simp
      · exact .inr ⟨y, hy, rfl⟩
theorem zip_map (ps : List Bts) (f : Bts → Bts) {β : Type} (g : Bts → Bts → β) : ((ps.zip (ps.map f)).map fun q => g q.1 q.2) = ps.map fun p => g p (f p) := by
  induction ps with
  | nil => rfl
  | cons p ps ih => rw [List.map_cons, List.zip_cons_cons, List.map_cons, ih, List.map_cons]
theorem acc_mt (ps : List Bts) (nm : Bts) : accS ps (stO ps nm) = ps.map fun p => mt p nm := by
  unfold stO accS
  rw [run_map, zip_map ps (fun p => run p nm) fun a b => decide (a.length ∈ b)]
  rfl
theorem nameQ_mt {nm : Bts} {t : Tm} {p : Bts} (e : t.body = .nam p) (hp : p ∈ ps) : nameQ ps (accS ps (stO ps nm)) t = (mt p nm != t.neg) := by
  unfold nameQ
  rw [e, acc_mt]
  show ((ps.map fun p => mt p nm).getD (ps.idxOf p) false != t.neg) = _
  have := (idx_at hp).1
  rw [List.getD_eq_getElem?_getD, List.getElem?_map, this]
  rfl
theorem aboutW {ts : List Tm} {nm : Bts} (hp : patsIn ts ps) : ((aboutM ts wNm).all (nameQ ps (accS ps (stO ps nm)))) = true ↔ HW ts nm := by
  rw [List.all_eq_true]
  constructor
  · intro h t ht p e
    have := h t (about_mem.mpr ⟨ht, by rw [e]; exact (by decide +kernel : ("name" : Str) ∈ wNm)⟩)
    rwa [nameQ_mt e (hp t ht p e)] at this
  · intro h t ht
    obtain ⟨p, e⟩ := is_nam ht
    have h1 := (about_mem.mp ht).1
    rw [nameQ_mt e (hp t h1 p e)]
    exact h t h1 p e
theorem nfit_sound {ts : List Tm} {nm : Bts} (ok : okP ps) (hp : patsIn ts ps) (h : nfit ts ps (ntb ps) = some nm) : HW ts nm ∧ nm.length ≤ 511 ∧ ∀ b ∈ nm, b ≤ 255 := by
  unfold nfit at h
  obtain ⟨e, he, rfl⟩ := Option.map_eq_some_iff.mp h
  have h1 := List.find?_some (p := fun e : List Bool × Bts => (aboutM ts wNm).all (nameQ ps e.1)) he
  rcases tab_of (nmsM ps) [] e (List.mem_of_find?_eq_some he) with hh | ⟨x, hx, rfl⟩
  · simp at hh
  · obtain ⟨g1, g2, g3⟩ := nmsM_of ok x hx
    refine ⟨?_, g2, g3⟩
    have h2 : ((aboutM ts wNm).all (nameQ ps (accS ps x.1))) = true := h1
    rw [g1] at h2
    exact (aboutW hp).mp h2
theorem nfit_ex {ts : List Tm} {nm : Bts} (ok : okP ps) (hp : patsIn ts ps) (h : HW ts nm) : (nfit ts ps (ntb ps)).isSome = true := by
  unfold nfit
  rw [Option.isSome_map, List.find?_isSome]
  obtain ⟨x, hx, ex⟩ := nmsM_ex ok nm
  obtain ⟨e, he, ek⟩ := List.mem_map.mp (tab_ex (ps := ps) (nmsM ps) [] (accS ps x.1) (.inr ⟨x, hx, rfl⟩))
  refine ⟨e, he, ?_⟩
  rw [ek, ex]
  exact (aboutW hp).mpr h
/-! ### fft -/
theorem fft_sound {ts : List Tm} {f : Fx} (ok : okP ps) (hp : patsIn ts ps) (h : fft ts ps (ntb ps) = some f) : Sound f ∧ okT ts f = true := by
  unfold fft at h
  split at h
  · rename_i n k s p d a h1 h2 h3 h4 h5 h6
    cases h
    obtain ⟨n1, n2, n3⟩ := nfit_sound ok hp h1
    obtain ⟨k1, k2⟩ := ktf_sound h2
    obtain ⟨s1, s2, s3⟩ := ntf_sound (by decide) h3
    obtain ⟨p1, p2, p3⟩ := ntf_sound (by decide) h4
    obtain ⟨d1, d2, d3⟩ := ntf_sound (by decide) h5
    obtain ⟨a1, a2⟩ := atf_sound h6
    exact ⟨⟨n3, by show n.length ≤ 1000; omega, s1, s2, p1, p2, d1, d2, a1, k1⟩, okT_iff.mpr ⟨s3, p3, d3, k2, a2, n1⟩⟩
  · cases h
theorem fft_ex {ts : List Tm} {f : Fx} (ok : okP ps) (hp : patsIn ts ps) (wf : ∀ t ∈ ts, t.body.wf) (sf : Sound f) (h : okT ts f = true) : (fft ts ps (ntb ps)).isSome = true := by
  have P := okT_iff.mp h
  obtain ⟨n, h1⟩ := Option.isSome_iff_exists.mp (nfit_ex ok hp P.w)
  obtain ⟨k, h2⟩ := Option.isSome_iff_exists.mp (ktf_ex sf.kk P.k)
  obtain ⟨s, h3⟩ := Option.isSome_iff_exists.mp (ntf_ex (g := .size) (by decide) wf sf.s0 sf.s1 P.s)
  obtain ⟨p, h4⟩ := Option.isSome_iff_exists.mp (ntf_ex (g := .pages) (by decide) wf sf.p0 sf.p1 P.p)
  obtain ⟨d, h5⟩ := Option.isSome_iff_exists.mp (ntf_ex (g := .depth) (by decide) wf sf.d0 sf.d1 P.d)
  obtain ⟨a, h6⟩ := Option.isSome_iff_exists.mp (atf_ex wf sf.ac P.a)
  unfold fft
  rw [h1, h2, h3, h4, h5, h6]
  rfl
end
end Z
set_option Elab.async false
set_option linter.all false
set_option maxRecDepth 100000
set_option maxHeartbeats 1000000
namespace Z
open PySem PySem.Spec PyProof.Rows L2 Evl
/-! ### which rule decides -/
theorem find_rng (q : Nat → Bool) : ∀ n, ((List.range n).find? q = none ∧ ∀ j, j < n → q j = false) ∨ ∃ k, (List.range n).find? q = some k ∧ k < n ∧ q k = true ∧ ∀ j, j < k → q j = false
  | 0 => .inl ⟨rfl, fun j h => by omega⟩
  | n + 1 => by
    rw [List.range_succ, List.find?_append]
    rcases find_rng q n with ⟨h, h2⟩ | ⟨k, h, h2, h3, h4⟩
    · rw [h]
      cases e : q n with
      | true => exact .inr ⟨n, by simp [e], by omega, e, h2⟩
      | false =>
        refine .inl ⟨by simp [e], fun j hj => ?_⟩
        by_cases z : j = n
        · rw [z]; exact e
        · exact h2 j (by omega)
    · rw [h]
      exact .inr ⟨k, rfl, by omega, h3, h4⟩
theorem find_rng_at {q : Nat → Bool} {n k : Nat} (hk : k < n) (h1 : q k = true) (h2 : ∀ j, j < k → q j = false) : (List.range n).find? q = some k := by
  rcases find_rng q n with ⟨_, h⟩ | ⟨m, h, _, h3, h4⟩
  · rw [h k hk] at h1
    cases h1
  · rw [h]
    by_cases a : m < k
    · rw [h2 m a] at h3
      cases h3
    · by_cases b : k < m
      · rw [h4 k b] at h1
        cases h1
      · congr 1
        omega
def rOk (p : List Rl) (f : Fx) (k : Nat) : Bool := okT ((p[k]?.map (·.ts)).getD []) f
def idM (p : List Rl) (f : Fx) : Int := match (List.range p.length).find? (rOk p f) with
  | some k => (k : Nat)
  | none => -1
theorem hL_eq (t : Tm) (f : Fx) : hL t f = hM t f := by
  unfold hL hM hbL
  congr 1
  cases t.body with
  | nam p => exact lawMt_eq p f.name
  | _ => rfl
theorem jI_eq (p : List Rl) (f : Fx) : jI p f = idM p f := by
  unfold jI idM
  have e : (fun k => ((p[k]?.map (·.ts)).getD []).all fun t => hL t f) = rOk p f := by
    funext k
    unfold rOk okT
    congr 1
    funext t
    exact hL_eq t f
  first
    | (rw [e]; done)
    | (rw [e]; cases (List.range p.length).find? (rOk p f) <;> rfl)
theorem id_cases (p : List Rl) (f : Fx) : (idM p f = -1 ∧ ∀ j, j < p.length → rOk p f j = false) ∨ ∃ k : Nat, idM p f = (k : Nat) ∧ k < p.length ∧ rOk p f k = true ∧ ∀ j, j < k → rOk p f j = false := by
  unfold idM
  rcases find_rng (rOk p f) p.length with ⟨h, h2⟩ | ⟨k, h, h2⟩
  · rw [h]
    exact .inl ⟨rfl, h2⟩
  · rw [h]
    exact .inr ⟨k, rfl, h2⟩
theorem rOk_at {p : List Rl} {f : Fx} {k : Nat} {r : Rl} (h : p[k]? = some r) : rOk p f k = okT r.ts f := by
  unfold rOk
  rw [h]
  rfl
theorem okT_app (w u : List Tm) (f : Fx) : okT (w ++ u) f = (okT w f && okT u f) := List.all_append
theorem turn_not (t : Tm) (f : Fx) : hM (turnM t) f = !hM t f := by
  unfold hM turnM
  cases hb t.body f <;> cases t.neg <;> rfl
theorem negS_iff {acc : List (List Tm)} {r : Rl} {f : Fx} : (∃ w ∈ negS acc r, okT w f = true) ↔ (∃ w ∈ acc, okT w f = true) ∧ okT r.ts f = false := by
  unfold negS
  constructor
  · rintro ⟨w, hw, h⟩
    obtain ⟨w0, h0, h1⟩ := List.mem_flatMap.mp hw
    obtain ⟨t, ht, rfl⟩ := List.mem_map.mp h1
    rw [okT_app, Bool.and_eq_true] at h
    refine ⟨⟨w0, h0, h.1⟩, ?_⟩
    have h2 : hM (turnM t) f = true := by simpa [okT] using h.2
    rw [turn_not] at h2
    refine Bool.eq_false_iff.mpr fun z => ?_
    have := List.all_eq_true.mp z t ht
    rw [this] at h2
    cases h2
  · rintro ⟨⟨w, hw, h⟩, h2⟩
    unfold okT at h2
    obtain ⟨t, ht, h3⟩ := List.all_eq_false.mp h2
    refine ⟨w ++ [turnM t], List.mem_flatMap.mpr ⟨w, hw, List.mem_map.mpr ⟨t, ht, rfl⟩⟩, ?_⟩
    rw [okT_app, h]
    have : hM (turnM t) f = true := by
      rw [turn_not]
      simpa using h3
    simp [okT, this]
theorem neg_iff {f : Fx} : ∀ (p : List Rl) {acc : List (List Tm)}, (∃ w ∈ p.foldl negS acc, okT w f = true) ↔ (∃ w ∈ acc, okT w f = true) ∧ ∀ r ∈ p, okT r.ts f = false
  | [], acc => by simp
  | r :: p, acc => by
    rw [List.foldl_cons, neg_iff p, negS_iff]
    simp only [List.mem_cons, forall_eq_or_imp]
    exact and_assoc
theorem negW_iff {f : Fx} {p : List Rl} : (∃ w ∈ negW p, okT w f = true) ↔ ∀ r ∈ p, okT r.ts f = false := by
  unfold negW
  rw [neg_iff]
  exact ⟨fun h => h.2, fun h => ⟨⟨[], by simp, rfl⟩, h⟩⟩
theorem ways_pos {f : Fx} {p : List Rl} {k : Nat} {r : Rl} (h : p[k]? = some r) : (∃ w ∈ waysM p (k : Nat), okT w f = true) ↔ (∀ q ∈ p.take k, okT q.ts f = false) ∧ okT r.ts f = true := by
  have e : waysM p (k : Nat) = (negW (p.take k)).map (· ++ r.ts) := by
    unfold waysM
    rw [if_pos (by omega)]
    show (match p[((k : Nat) : Int).toNat]? with | some r => (negW (p.take ((k : Nat) : Int).toNat)).map (· ++ r.ts) | none => negW p) = _
    rw [show ((k : Nat) : Int).toNat = k by omega, h]
  rw [e, ← negW_iff]
  constructor
  · rintro ⟨w, hw, h⟩
    obtain ⟨w0, h0, rfl⟩ := List.mem_map.mp hw
    rw [okT_app, Bool.and_eq_true] at h
    exact ⟨⟨w0, h0, h.1⟩, h.2⟩
  · rintro ⟨⟨w, hw, h⟩, h2⟩
    exact ⟨w ++ r.ts, List.mem_map.mpr ⟨w, hw, rfl⟩, by rw [okT_app, h, h2]; rfl⟩
theorem ways_neg {p : List Rl} : waysM p (-1) = negW p := rfl
theorem take_ok {p : List Rl} {f : Fx} {k : Nat} (hk : k ≤ p.length) : (∀ q ∈ p.take k, okT q.ts f = false) ↔ ∀ j, j < k → rOk p f j = false := by
  constructor
  · intro h j hj
    have g : p[j]? = some p[j] := List.getElem?_eq_getElem (by omega)
    rw [rOk_at g]
    exact h _ (List.mem_of_getElem? (i := j) (by rw [List.getElem?_take_of_lt hj, g]))
  · intro h q hq
    obtain ⟨j, hj, rfl⟩ := List.mem_iff_getElem.mp hq
    have hj2 : j < k := by rw [List.length_take] at hj; omega
    have g : p[j]? = some p[j] := List.getElem?_eq_getElem (by omega)
    have := h j hj2
    rw [rOk_at g] at this
    rw [List.getElem_take]
    exact this
theorem way_of (p : List Rl) (f : Fx) : ∃ w ∈ waysM p (idM p f), okT w f = true := by
  rcases id_cases p f with ⟨h, h2⟩ | ⟨k, h, h2, h3, h4⟩
  · rw [h, ways_neg, negW_iff]
    have := (take_ok (p := p) (f := f) (k := p.length) (by omega)).mpr h2
    rwa [List.take_length] at this
  · have g : p[k]? = some p[k] := List.getElem?_eq_getElem h2
    rw [h, ways_pos g]
    rw [rOk_at g] at h3
    exact ⟨(take_ok (by omega)).mpr h4, h3⟩
theorem way_to {p : List Rl} {f : Fx} {i : Int} (h0 : -1 ≤ i) (h1 : i < p.length) {w : List Tm} (hw : w ∈ waysM p i) (h : okT w f = true) : idM p f = i := by
  by_cases hi : i = -1
  · subst hi
    rw [ways_neg] at hw
    have h2 := negW_iff.mp ⟨w, hw, h⟩
    have h3 := (take_ok (p := p) (f := f) (k := p.length) (by omega)).mp (by rwa [List.take_length])
    rcases id_cases p f with ⟨e, _⟩ | ⟨k, e, e2, e3, _⟩
    · exact e
    · rw [h3 k e2] at e3
      cases e3
  · obtain ⟨k, rfl⟩ : ∃ k : Nat, i = k := ⟨i.toNat, by omega⟩
    have hk : k < p.length := by omega
    have g : p[k]? = some p[k] := List.getElem?_eq_getElem hk
    obtain ⟨h2, h3⟩ := (ways_pos g).mp ⟨w, hw, h⟩
    have h4 := (take_ok (by omega)).mp h2
    rw [← rOk_at (f := f) g] at h3
    unfold idM
    rw [find_rng_at hk h3 h4]
theorem id_rng (p : List Rl) (f : Fx) : -1 ≤ idM p f ∧ idM p f < p.length := by
  rcases id_cases p f with ⟨h, _⟩ | ⟨k, h, h2, _⟩ <;> omega
/-! ### difference -/
theorem ways_ok2 {p : List Rl} {ps : List (List Rl)} (hp : p ∈ ps) (g : gP p) (i : Int) : ∀ w ∈ waysM p i, (∀ t ∈ w, t.body.wf) ∧ patsIn w (patsM ps) := fun w hw => (ways_ok hp g.pol.s g.pol.w i w hw).2
theorem dfM_sound {a b : List Rl} {f : Fx} (ga : gP a) (gb : gP b) (h : dfM a b = some f) : Sound f ∧ vdM a (idM a f) ≠ vdM b (idM b f) := by
  have ok : okP (patsM [a, b]) := patsM_okP (by simpa using ⟨ga, gb⟩) (by simp)
  unfold dfM at h
  obtain ⟨i, hi, h⟩ := List.exists_of_findSome?_eq_some h
  unfold difI at h
  obtain ⟨j, hj, h⟩ := List.exists_of_findSome?_eq_some h
  unfold difJ at h
  split at h
  · cases h
  · rename_i hv
    unfold ffM at h
    obtain ⟨ts, ht, h⟩ := List.exists_of_findSome?_eq_some h
    unfold lisM at ht
    obtain ⟨w, hw, h2⟩ := List.mem_flatMap.mp ht
    obtain ⟨u, hu, rfl⟩ := List.mem_map.mp h2
    have hw2 : w ∈ waysM a (-1 + (i : Int)) := (List.mem_filter.mp hw).1
    have p1 := (ways_ok2 (ps := [a, b]) (by simp) ga _ w hw2).2
    have p2 := (ways_ok2 (ps := [a, b]) (by simp) gb _ u hu).2
    obtain ⟨sf, ht⟩ := fft_sound ok (fun t ht p e => by
      rcases List.mem_append.mp ht with ht | ht
      · exact p1 t ht p e
      · exact p2 t ht p e) h
    rw [okT_app, Bool.and_eq_true] at ht
    rw [List.mem_range] at hi hj
    rw [way_to (by omega) (by omega) hw2 ht.1, way_to (by omega) (by omega) hu ht.2]
    exact ⟨sf, hv⟩
theorem dfM_ex {a b : List Rl} {f : Fx} (ga : gP a) (gb : gP b) (sf : Sound f) (hv : vdM a (idM a f) ≠ vdM b (idM b f)) : dfM a b ≠ none := fun h => by
  have ok : okP (patsM [a, b]) := patsM_okP (by simpa using ⟨ga, gb⟩) (by simp)
  unfold dfM at h
  obtain ⟨a0, a1⟩ := id_rng a f
  obtain ⟨b0, b1⟩ := id_rng b f
  have h1 := List.findSome?_eq_none_iff.mp h (idM a f + 1).toNat (List.mem_range.mpr (by omega))
  unfold difI at h1
  have h2 := List.findSome?_eq_none_iff.mp h1 (idM b f + 1).toNat (List.mem_range.mpr (by omega))
  rw [show -1 + (((idM a f + 1).toNat : Nat) : Int) = idM a f by omega] at h2
  unfold difJ at h2
  rw [show -1 + (((idM b f + 1).toNat : Nat) : Int) = idM b f by omega, if_neg hv] at h2
  unfold ffM at h2
  obtain ⟨w, hw, ew⟩ := way_of a f
  obtain ⟨u, hu, eu⟩ := way_of b f
  obtain ⟨f1, p1⟩ := ways_ok2 (ps := [a, b]) (by simp) ga _ w hw
  obtain ⟨f2, p2⟩ := ways_ok2 (ps := [a, b]) (by simp) gb _ u hu
  have hmem : w ++ u ∈ lisM a b (idM a f) (idM b f) (patsM [a, b]) (ntb (patsM [a, b])) := List.mem_flatMap.mpr ⟨w, List.mem_filter.mpr ⟨hw, fft_ex ok p1 f1 sf ew⟩, List.mem_map.mpr ⟨u, hu, rfl⟩⟩
  have h3 := List.findSome?_eq_none_iff.mp h2 _ hmem
  have h4 := fft_ex (ts := w ++ u) ok (fun t ht p e => by
      rcases List.mem_append.mp ht with ht | ht
      · exact p1 t ht p e
      · exact p2 t ht p e) (fun t ht => by
      rcases List.mem_append.mp ht with ht | ht
      · exact f1 t ht
      · exact f2 t ht) sf (by rw [okT_app, ew, eu]; rfl)
  rw [h3] at h4
  cases h4
theorem dfM_self {a : List Rl} (ga : gP a) : dfM a a = none := by
  cases h : dfM a a with
  | none => rfl
  | some f => exact absurd rfl (dfM_sound ga ga h).2
/-! ### without the shadowed rules -/
def fVd (p : List Rl) (f : Fx) : Vd := ((p.find? fun r => okT r.ts f).map Rl.v).getD .hold
def dR0 : Rl := ⟨.hold, []⟩
theorem as_map (p : List Rl) : p = (List.range p.length).map fun k => p.getD k dR0 := by
  apply List.ext_getElem?
  intro k
  rw [List.getElem?_map]
  by_cases hk : k < p.length
  · rw [List.getElem?_range hk, List.getElem?_eq_getElem hk]
    simp [List.getD_eq_getElem?_getD, List.getElem?_eq_getElem hk]
  · rw [List.getElem?_eq_none (by omega), List.getElem?_eq_none (by simpa using hk)]
    rfl
theorem find_map_g {α β : Type} (q : β → Bool) (g : α → β) : ∀ l : List α, (l.map g).find? q = (l.find? fun x => q (g x)).map g
  | [] => rfl
  | a :: l => by
    rw [List.map_cons, List.find?_cons, List.find?_cons, find_map_g q g l]
    cases q (g a) <;> rfl
theorem find_filter_g {α : Type} (q r : α → Bool) : ∀ l : List α, (l.filter r).find? q = l.find? fun x => r x && q x
  | [] => rfl
  | a :: l => by
    rw [List.filter_cons, List.find?_cons]
    cases e : r a with
    | true =>
      rw [if_pos rfl, List.find?_cons, find_filter_g q r l]
      cases q a <;> rfl
    | false =>
      rw [if_neg (by simp), find_filter_g q r l]
      rfl
theorem rOk_getD {p : List Rl} {f : Fx} {k : Nat} (hk : k < p.length) : rOk p f k = okT (p.getD k dR0).ts f := by
  have g : p[k]? = some p[k] := List.getElem?_eq_getElem hk
  rw [rOk_at g, List.getD_eq_getElem?_getD, g]
  rfl
theorem find_congr {α : Type} {q r : α → Bool} : ∀ {l : List α}, (∀ x ∈ l, q x = r x) → l.find? q = l.find? r
  | [], _ => rfl
  | a :: l, h => by
    rw [List.find?_cons, List.find?_cons, h a (by simp), find_congr fun x hx => h x (by simp [hx])]
theorem vd_fV (p : List Rl) (f : Fx) : vdM p (idM p f) = fVd p f := by
  have e : p.find? (fun r => okT r.ts f) = ((List.range p.length).find? (rOk p f)).map fun k => p.getD k dR0 := by
    conv => lhs; rw [as_map p]
    rw [find_map_g]
    congr 1
    exact find_congr fun k hk => (rOk_getD (List.mem_range.mp hk)).symm
  unfold fVd idM
  rw [e]
  rcases find_rng (rOk p f) p.length with ⟨h, _⟩ | ⟨k, h, h2, _⟩
  · rw [h]
    rfl
  · rw [h]
    have g : p[k]? = some p[k] := List.getElem?_eq_getElem h2
    show vdM p ((k : Nat) : Int) = (p.getD k dR0).v
    unfold vdM
    rw [if_neg (by omega), show ((k : Nat) : Int).toNat = k by omega, List.getD_eq_getElem?_getD, g]
    rfl
theorem sho_fV {a : List Rl} {f : Fx} (ga : gP a) (sf : Sound f) : fVd (sho a) f = fVd a f := by
  have ok : okP (patsM [a]) := patsM_okP (by simpa using ga) (by simp)
  unfold fVd sho
  conv => rhs; rw [as_map a]
  rw [find_map_g, find_map_g, find_filter_g]
  have key : ((List.range a.length).find? fun k => decide (k ∉ shM a) && okT (a.getD k ⟨.hold, []⟩).ts f) = (List.range a.length).find? fun k => okT (a.getD k dR0).ts f := by
    rcases find_rng (fun k => okT (a.getD k dR0).ts f) a.length with ⟨h, h2⟩ | ⟨k, h, h2, h3, h4⟩
    · rw [h, List.find?_eq_none]
      intro k hk
      have h5 : okT (a.getD k ⟨.hold, []⟩).ts f = false := h2 k (List.mem_range.mp hk)
      rw [h5]
      simp
    · rw [h]
      refine find_rng_at h2 ?_ fun j hj => ?_
      · have h5 : okT (a.getD k ⟨.hold, []⟩).ts f = true := h3
        rw [h5, Bool.and_true, decide_eq_true_eq]
        intro hm
        have h6 := (List.mem_filter.mp hm).2
        rw [Option.isNone_iff_eq_none] at h6
        unfold ffM at h6
        have hid : idM a f = (k : Nat) := by
          unfold idM
          rw [find_rng_at h2 (by rw [rOk_getD h2]; exact h3) (fun j hj => by rw [rOk_getD (by omega)]; exact h4 j hj)]
        obtain ⟨w, hw, ew⟩ := way_of a f
        rw [hid] at hw
        obtain ⟨f1, p1⟩ := ways_ok2 (ps := [a]) (by simp) ga _ w hw
        have h7 := List.findSome?_eq_none_iff.mp h6 w hw
        have h8 := fft_ex ok p1 f1 sf ew
        rw [h7] at h8
        cases h8
      · have h5 : okT (a.getD j ⟨.hold, []⟩).ts f = false := h4 j hj
        rw [h5, Bool.and_false]
  rw [key]
  rfl
theorem gP_sho {a : List Rl} (ga : gP a) : gP (sho a) := by
  have hm : ∀ r ∈ sho a, r ∈ a := fun r hr => by
    obtain ⟨k, hk, rfl⟩ := List.mem_map.mp hr
    have hk2 : k < a.length := by simpa using (List.mem_filter.mp hk).1
    have g : a[k]? = some a[k] := List.getElem?_eq_getElem hk2
    rw [List.getD_eq_getElem?_getD, g]
    exact List.getElem_mem hk2
  have hs : ∀ (l : List Nat) (k : Nat → Bool), (((l.filter k).map fun k => a.getD k ⟨.hold, []⟩).map fun r => r.ts.length).sum ≤ ((l.map fun k => a.getD k ⟨.hold, []⟩).map fun r => r.ts.length).sum := fun l k => by
    induction l with
    | nil => simp
    | cons x l ih =>
      rw [List.filter_cons]
      split
      · simp only [List.map_cons, List.sum_cons]
        omega
      · simp only [List.map_cons, List.sum_cons]
        omega
  refine ⟨?_, fun r hr => ga.r r (hm r hr), ?_⟩
  · have := ga.l
    have h2 : (sho a).length ≤ (List.range a.length).length := by
      unfold sho
      rw [List.length_map]
      exact List.length_filter_le _ _
    rw [List.length_range] at h2
    omega
  · have h2 := hs (List.range a.length) fun k => decide (k ∉ shM a)
    have e := congrArg nT (as_map a)
    have := ga.n
    have h3 : nT (sho a) ≤ nT ((List.range a.length).map fun k => a.getD k dR0) := h2
    omega
theorem dfM_sho {a : List Rl} (ga : gP a) : dfM a (sho a) = none := by
  cases h : dfM a (sho a) with
  | none => rfl
  | some f =>
    obtain ⟨sf, hv⟩ := dfM_sound ga (gP_sho ga) h
    rw [vd_fV, vd_fV, sho_fV ga sf] at hv
    exact absurd rfl hv
end Z
set_option Elab.async false
set_option linter.all false
set_option maxRecDepth 100000
set_option maxHeartbeats 1000000
namespace Z
open PySem PySem.Spec PyProof.Rows L2 Evl
/-! ### the law's lists of acts are enough -/
def blL : Nat → List (List Bool)
  | 0 => [[]]
  | n + 1 => (blL n).flatMap fun l => [true :: l, false :: l]
theorem blL_mem : ∀ l : List Bool, l ∈ blL l.length
  | [] => by simp [blL]
  | b :: l => List.mem_flatMap.mpr ⟨l, blL_mem l, by cases b <;> simp⟩
def valL : List Bool → Nat
  | [] => 0
  | b :: l => nB b + 2 * valL l
theorem bit_fin : ∀ n < 8, ∀ l ∈ blL n, l.any id = true → valL l - 1 < 2 ^ n - 1 ∧ (List.range n).map (bitN (valL l - 1)) = l := by decide +kernel
theorem filter_map_g {α β : Type} (g : α → β) (z : β → Bool) : ∀ l : List α, (l.map g).filter z = (l.filter fun x => z (g x)).map g
  | [] => rfl
  | a :: l => by
    rw [List.map_cons, List.filter_cons, List.filter_cons, filter_map_g g z l]
    cases z (g a) <;> rfl
theorem ac_map (ks : List Ac) : ks = (List.range ks.length).map fun k => ks.getD k .open_ := by
  apply List.ext_getElem?
  intro k
  rw [List.getElem?_map]
  by_cases hk : k < ks.length
  · rw [List.getElem?_range hk, List.getElem?_eq_getElem hk]
    simp [List.getD_eq_getElem?_getD, List.getElem?_eq_getElem hk]
  · rw [List.getElem?_eq_none (by omega), List.getElem?_eq_none (by simpa using hk)]
    rfl
theorem som_any {ks : List Ac} (hl : ks.length < 8) (z : Ac → Bool) (hz : ∃ k ∈ ks, z k = true) : ∃ b, b < 2 ^ ks.length - 1 ∧ somA ks b = ks.filter z := by
  have hm := blL_mem (ks.map z)
  rw [List.length_map] at hm
  obtain ⟨h1, h2⟩ := bit_fin ks.length hl (ks.map z) hm (by
    obtain ⟨k, hk, e⟩ := hz
    exact List.any_eq_true.mpr ⟨z k, List.mem_map.mpr ⟨k, hk, rfl⟩, e⟩)
  refine ⟨_, h1, ?_⟩
  generalize valL (ks.map z) - 1 = b at h2
  have e : ks.filter z = ((List.range ks.length).filter fun k => z (ks.getD k .open_)).map fun k => ks.getD k .open_ := by
    conv => lhs; rw [ac_map ks]
    exact filter_map_g _ z _
  rw [e]
  unfold somA
  congr 1
  refine List.filter_congr fun k hk => ?_
  have hk' : k < ks.length := List.mem_range.mp hk
  have h3 := congrArg (fun l : List Bool => l[k]?) h2
  simp only [List.getElem?_map, List.getElem?_range hk', List.getElem?_eq_getElem hk', Option.map_some] at h3
  have := Option.some.inj h3
  rw [this, List.getD_eq_getElem?_getD, List.getElem?_eq_getElem hk']
  rfl
theorem namA_mem {ts : List Tm} {a : Ac} : a ∈ namA ts ↔ ∃ t ∈ ts, t.body = .act a := by
  unfold namA
  rw [List.mem_filterMap]
  refine exists_congr fun t => and_congr_right fun _ => ?_
  cases e : t.body <;> simp
theorem six_nd : acL6.Nodup := by decide
theorem law_acts {ts : List Tm} {A : List Ac} (hn : ∀ t ∈ ts, ∀ s n, t.body = .num .acts s n → 0 ≤ n ∧ n ≤ 100) :
    ∃ B ∈ actL ts, (∀ t ∈ ts, ∀ a, t.body = .act a → (a ∈ B ↔ a ∈ A)) ∧ ∀ t ∈ ts, ∀ s n, t.body = .num .acts s n → stM B.length s n = stM A.length s n := by
  by_cases hA : A = []
  · subst hA
    exact ⟨[], List.mem_cons_self, fun _ _ _ _ => Iff.rfl, fun _ _ _ _ _ => rfl⟩
  obtain ⟨a0, ha0⟩ : ∃ a, a ∈ A := by
    cases A with
    | nil => exact absurd rfl hA
    | cons a l => exact ⟨a, by simp⟩
  let z : Ac → Bool := fun k => if k ∈ namA ts then decide (k ∈ A) else A.any fun a => decide (a ∉ namA ts)
  have zn : ∀ k, k ∈ namA ts → z k = decide (k ∈ A) := fun k hk => if_pos hk
  have zo : ∀ k, k ∉ namA ts → z k = A.any fun a => decide (a ∉ namA ts) := fun k hk => if_neg hk
  have hks : kinA ts = (acL6.filter fun a => decide (a ∈ namA ts)) ++ (acL6.filter fun a => !decide (a ∈ namA ts)).take 1 := rfl
  have hne : ∃ k ∈ kinA ts, z k = true := by
    by_cases q : a0 ∈ namA ts
    · refine ⟨a0, ?_, by rw [zn a0 q]; exact decide_eq_true ha0⟩
      rw [hks]
      exact List.mem_append_left _ (List.mem_filter.mpr ⟨ac_in6 a0, decide_eq_true q⟩)
    · have h1 : a0 ∈ acL6.filter fun a => !decide (a ∈ namA ts) := List.mem_filter.mpr ⟨ac_in6 a0, by simp [q]⟩
      obtain ⟨o, ho⟩ : ∃ o, o ∈ (acL6.filter fun a => !decide (a ∈ namA ts)).take 1 := by
        cases e : acL6.filter fun a => !decide (a ∈ namA ts) with
        | nil => rw [e] at h1; simp at h1
        | cons o l => exact ⟨o, by simp⟩
      have hon : o ∉ namA ts := by
        have := (List.mem_filter.mp (List.mem_of_mem_take ho)).2
        simpa using this
      refine ⟨o, by rw [hks]; exact List.mem_append_right _ ho, ?_⟩
      rw [zo o hon]
      exact List.any_eq_true.mpr ⟨a0, ha0, decide_eq_true q⟩
  have hkl := kin_len ts
  obtain ⟨b, hb, hS⟩ := som_any (by omega) z hne
  have hSn : (kinA ts).filter z ≠ [] := fun e => by
    obtain ⟨k, hk, hz⟩ := hne
    have := List.mem_filter.mpr ⟨hk, hz⟩
    rw [e] at this
    simp at this
  have hSA : ((kinA ts).filter z).length ≤ A.length := by
    rw [hks, List.filter_append]
    have nd1 : ((acL6.filter fun a => decide (a ∈ namA ts)).filter z).Nodup := List.Pairwise.filter _ (List.Pairwise.filter _ six_nd)
    have in1 : ∀ x ∈ (acL6.filter fun a => decide (a ∈ namA ts)).filter z, x ∈ A ∧ x ∈ namA ts := fun x hx => by
      obtain ⟨h1, h2⟩ := List.mem_filter.mp hx
      have h3 : x ∈ namA ts := by simpa using (List.mem_filter.mp h1).2
      rw [zn x h3] at h2
      exact ⟨of_decide_eq_true h2, h3⟩
    have l1 : (((acL6.filter fun a => !decide (a ∈ namA ts)).take 1).filter z).length ≤ 1 := Nat.le_trans (List.length_filter_le _ _) (by rw [List.length_take]; omega)
    rw [List.length_append]
    by_cases q : ((((acL6.filter fun a => !decide (a ∈ namA ts)).take 1).filter z).length) = 0
    · rw [q]
      exact nodup_le nd1 fun x hx => (in1 x hx).1
    · obtain ⟨o, ho⟩ : ∃ o, o ∈ ((acL6.filter fun a => !decide (a ∈ namA ts)).take 1).filter z := by
        cases e : ((acL6.filter fun a => !decide (a ∈ namA ts)).take 1).filter z with
        | nil => rw [e] at q; simp at q
        | cons o l => exact ⟨o, by simp⟩
      obtain ⟨h1, h2⟩ := List.mem_filter.mp ho
      have hon : o ∉ namA ts := by
        have := (List.mem_filter.mp (List.mem_of_mem_take h1)).2
        simpa using this
      rw [zo o hon] at h2
      obtain ⟨a1, ha1, hu⟩ := List.any_eq_true.mp h2
      have hu' : a1 ∉ namA ts := of_decide_eq_true hu
      have := nodup_le (l := (acL6.filter fun a => decide (a ∈ namA ts)).filter z ++ [a1]) (m := A) (by
        rw [List.nodup_append]
        exact ⟨nd1, by simp, fun x hx y hy e => by
          rw [List.mem_singleton.mp hy] at e
          exact hu' (e ▸ (in1 x hx).2)⟩) (fun x hx => by
        rcases List.mem_append.mp hx with hx | hx
        · exact (in1 x hx).1
        · rw [List.mem_singleton.mp hx]
          exact ha1)
      rw [List.length_append, List.length_singleton] at this
      omega
  have hS7 : ((kinA ts).filter z).length ≤ 7 := Nat.le_trans (List.length_filter_le _ _) hkl
  have hmS : ∀ a, a ∈ namA ts → (a ∈ (kinA ts).filter z ↔ a ∈ A) := fun a ha => by
    rw [List.mem_filter, zn a ha, decide_eq_true_eq]
    refine ⟨fun h => h.2, fun h => ⟨?_, h⟩⟩
    rw [hks]
    exact List.mem_append_left _ (List.mem_filter.mpr ⟨ac_in6 a, decide_eq_true ha⟩)
  have hB : ∀ B, B ∈ actB ts ((kinA ts).filter z) → B ∈ actL ts := fun B h => List.mem_cons_of_mem _ (List.mem_flatMap.mpr ⟨b, List.mem_range.mpr hb, by rw [hS]; exact h⟩)
  generalize (kinA ts).filter z = S at hSn hSA hS7 hmS hB
  have hv0 : (0 : Int) ≤ (if A.length ≤ 102 then (A.length : Int) else 102) := by split <;> omega
  have hv1 : (if A.length ≤ 102 then (A.length : Int) else 102) ≤ 102 := by split <;> omega
  have hv2 : (S.length : Int) ≤ (if A.length ≤ 102 then (A.length : Int) else 102) := by split <;> omega
  have hv3 : ∀ n : Int, n ≤ 100 → ∀ s, stM (if A.length ≤ 102 then (A.length : Int) else 102) s n = stM A.length s n := fun n hn s => by
    split
    · rfl
    · exact stM_same (by omega) (by omega) s
  generalize (if A.length ≤ 102 then (A.length : Int) else 102) = v at hv0 hv1 hv2 hv3
  obtain ⟨x, hx, hxv, mx, hs⟩ := law_pick (ts := ts) (g := .acts) hv0 hv1 [(S.length : Int)]
  have hge : (S.length : Int) ≤ x := mx _ (List.mem_append_right _ (List.mem_singleton.mpr rfl)) hv2
  refine ⟨repA S x, hB _ (List.mem_map.mpr ⟨x, List.mem_filter.mpr ⟨hx, decide_eq_true hge⟩, rfl⟩), fun t ht a e => ?_, fun t ht s n e => ?_⟩
  · unfold repA
    rw [rep_mem]
    exact hmS a (namA_mem.mpr ⟨t, ht, e⟩)
  · have el : ((repA S x).length : Int) = x := rep_len hge fun e => absurd e hSn
    rw [el, hs t ht s n e]
    exact hv3 n (hn t ht s n e).2 s
theorem actL_le {ts : List Tm} : ∀ B ∈ actL ts, B.length ≤ 1000 := fun B h => by
  rcases List.mem_cons.mp h with rfl | h
  · simp
  · obtain ⟨b, hb, h⟩ := List.mem_flatMap.mp h
    obtain ⟨x, hx, rfl⟩ := List.mem_map.mp h
    obtain ⟨h1, h2⟩ := List.mem_filter.mp hx
    have hk := kin_len ts
    have hsl : (somA (kinA ts) b).length ≤ 7 := by
      unfold somA
      rw [List.length_map]
      exact Nat.le_trans (List.length_filter_le _ _) (by rw [List.length_range]; omega)
    have hx2 : x ≤ 102 := by
      rcases List.mem_append.mp h1 with h | h
      · exact numL_le ts .acts 102 (by omega) x h
      · rw [List.mem_singleton.mp h]
        omega
    have hge := of_decide_eq_true h2
    have hne := som_ne (by omega) (List.mem_range.mp hb)
    have := rep_len hge fun e => absurd e hne
    unfold repA
    omega
theorem actL_len {ts : List Tm} (h : ts.length ≤ 8) : (actL ts).length ≤ 50000 := by
  have hk := kin_len ts
  have h2 : 2 ^ (kinA ts).length ≤ 2 ^ 7 := Nat.pow_le_pow_right (by omega) hk
  have key : ∀ l : List Nat, (l.flatMap fun b => actB ts (somA (kinA ts) b)).length ≤ 27 * l.length := fun l => by
    induction l with
    | nil => simp
    | cons b l ih =>
      have := actB_len ts (somA (kinA ts) b)
      rw [List.flatMap_cons, List.length_append, List.length_cons]
      omega
  have := key (List.range (2 ^ (kinA ts).length - 1))
  rw [List.length_range] at this
  unfold actL
  rw [List.length_cons]
  omega
end Z
set_option Elab.async false
set_option linter.all false
set_option maxRecDepth 100000
set_option maxHeartbeats 1000000
namespace Z
open PySem PySem.Spec PyProof.Rows L2 Evl
/-! ### the law's choices are the truth rows of the sound facts -/
def rwq (ts : List Tm) (pk : List Nat) (f : Fx) : Rw := pk.map fun k => (k, hM (tmAt ts k) f)
theorem rowF_eq (ts : List Tm) (pk : List Nat) (f : Fx) : rowF ts pk f = rwq ts pk f := List.map_congr_left fun k _ => by rw [hL_eq]
theorem addRs_mem {r : Rw} : ∀ (l acc : List Rw), r ∈ l.foldl addR acc ↔ r ∈ acc ∨ r ∈ l
  | [], acc => by simp
  | x :: l, acc => by
    rw [List.foldl_cons, addRs_mem l]
    have : r ∈ addR acc x ↔ r ∈ acc ∨ r = x := by
      unfold addR
      split
      · rename_i h
        refine ⟨.inl, fun h2 => h2.elim id fun e => by rw [e]; exact h⟩
      · simp
    rw [this, List.mem_cons]
    exact or_assoc
theorem addRs_nd : ∀ (l acc : List Rw), acc.Nodup → (l.foldl addR acc).Nodup
  | [], acc, h => h
  | x :: l, acc, h => by
    refine addRs_nd l (addR acc x) ?_
    unfold addR
    split
    · exact h
    · rename_i hn
      rw [List.nodup_append]
      exact ⟨h, by simp, fun a ha b hb e => hn (by rw [List.mem_singleton.mp hb] at e; rw [← e]; exact ha)⟩
theorem rows_mem {ts : List Tm} {ws : List Str} {many : List Fx} {r : Rw} : r ∈ rowsM ts ws many ↔ ∃ g ∈ many, r = rwq ts (pickM ts ws) g := by
  unfold rowsM
  rw [addRs_mem, List.mem_map]
  simp only [List.not_mem_nil, false_or]
  exact exists_congr fun g => and_congr_right fun _ => ⟨fun e => by rw [← e, rowF_eq], fun e => by rw [e, rowF_eq]⟩
theorem pick_mem {ts : List Tm} {ws : List Str} {k : Nat} : k ∈ pickM ts ws ↔ k < ts.length ∧ (tmAt ts k).body.word ∈ ws := by
  unfold pickM
  rw [List.mem_filter, List.mem_range, decide_eq_true_eq]
  refine and_congr_right fun hk => ?_
  unfold tmAt
  rw [List.getD_eq_getElem?_getD, List.getElem?_eq_getElem hk]
  exact Iff.rfl
theorem tmAt_mem {ts : List Tm} {k : Nat} (h : k < ts.length) : tmAt ts k ∈ ts := by
  unfold tmAt
  rw [List.getD_eq_getElem?_getD, List.getElem?_eq_getElem h]
  exact List.getElem_mem h
/-! what each part sees -/
theorem see_num {t : Tm} {g : NF} {f f' : Fx} (hw : t.body.word ∈ [g.str]) (h : ∀ s n, t.body = .num g s n → stM (f.num g) s n = stM (f'.num g) s n) : hM t f = hM t f' := by
  obtain ⟨s, n, e⟩ := w_num (List.mem_singleton.mp hw)
  rw [hM_of e, hM_of e]
  show (stM (f.num g) s n != t.neg) = (stM (f'.num g) s n != t.neg)
  rw [h s n e]
theorem see_kk {t : Tm} {f f' : Fx} (hw : t.body.word ∈ wIC) (h1 : f.kind = f'.kind) (h2 : f.kinds = f'.kinds) : hM t f = hM t f' := by
  rcases w_IC hw with ⟨k, e⟩ | ⟨k, e⟩
  · rw [hM_of e, hM_of e]
    show (decide (f.kind = k) != t.neg) = (decide (f'.kind = k) != t.neg)
    rw [h1]
  · rw [hM_of e, hM_of e]
    show (decide (k ∈ f.kinds) != t.neg) = (decide (k ∈ f'.kinds) != t.neg)
    rw [h2]
theorem see_ac {t : Tm} {f f' : Fx} (hw : t.body.word ∈ wAA) (h1 : ∀ a, t.body = .act a → (a ∈ f.acts ↔ a ∈ f'.acts)) (h2 : ∀ s n, t.body = .num .acts s n → stM f.acts.length s n = stM f'.acts.length s n) : hM t f = hM t f' := by
  rcases w_AA hw with ⟨a, e⟩ | ⟨s, n, e⟩
  · rw [hM_of e, hM_of e]
    show (decide (a ∈ f.acts) != t.neg) = (decide (a ∈ f'.acts) != t.neg)
    rw [decide_eq_decide.mpr (h1 a e)]
  · rw [hM_of e, hM_of e]
    show (stM f.acts.length s n != t.neg) = (stM f'.acts.length s n != t.neg)
    rw [h2 s n e]
theorem see_nm {t : Tm} {f f' : Fx} (hw : t.body.word ∈ wNm) (h : f.name = f'.name) : hM t f = hM t f' := by
  obtain ⟨p, e⟩ := is_nam (ts := [t]) (t := t) (about_mem.mpr ⟨by simp, hw⟩)
  rw [hM_of e, hM_of e]
  show (mt p f.name != t.neg) = (mt p f'.name != t.neg)
  rw [h]
theorem rwq_congr {ts : List Tm} {ws : List Str} {f f' : Fx} (h : ∀ k, k < ts.length → (tmAt ts k).body.word ∈ ws → hM (tmAt ts k) f = hM (tmAt ts k) f') : rwq ts (pickM ts ws) f = rwq ts (pickM ts ws) f' := List.map_congr_left fun k hk => by
  obtain ⟨h1, h2⟩ := pick_mem.mp hk
  rw [h k h1 h2]
def fxW (nm : Bts) : Fx := ⟨nm, 0, .no, [], 0, [], 0⟩
section
variable {ts : List Tm}
theorem nrow_eq {nm : Bts} : nrow ts (patsT ts) (pickM ts wNm) (stO (patsT ts) nm) = rwq ts (pickM ts wNm) (fxW nm) := List.map_congr_left fun k hk => by
  obtain ⟨h1, h2⟩ := pick_mem.mp hk
  obtain ⟨p, e⟩ := is_nam (ts := ts) (about_mem.mpr ⟨tmAt_mem h1, h2⟩)
  rw [nameQ_mt e (patsT_mem.mpr ⟨_, tmAt_mem h1, e⟩), hM_of e]
  rfl
theorem nrows_mem {r : Rw} : r ∈ nrowsM ts ↔ ∃ s ∈ stsM (patsT ts), r = nrow ts (patsT ts) (pickM ts wNm) s := by
  unfold nrowsM
  rw [addRs_mem, List.mem_map]
  simp only [List.not_mem_nil, false_or]
  exact exists_congr fun g => and_congr_right fun _ => ⟨fun e => e.symm, fun e => e.symm⟩
/-- the six rows of sound facts -/
theorem ex1 {f : Fx} (sf : Sound f) : rwq ts (pickM ts ["size"]) f ∈ rowsM ts ["size"] ((numL ts .size 2147483647).map fxS) := by
  obtain ⟨x, hx, _, _, hs⟩ := law_pick (ts := ts) (g := .size) sf.s0 sf.s1 []
  rw [List.append_nil] at hx
  refine rows_mem.mpr ⟨fxS x, List.mem_map.mpr ⟨x, hx, rfl⟩, rwq_congr fun k hk hw => (see_num (g := .size) hw fun s n e => ?_).symm⟩
  exact hs _ (tmAt_mem hk) s n e
theorem ex2 {f : Fx} (sf : Sound f) : rwq ts (pickM ts ["pages"]) f ∈ rowsM ts ["pages"] ((numL ts .pages 8).map fxP) := by
  obtain ⟨x, hx, _, _, hs⟩ := law_pick (ts := ts) (g := .pages) sf.p0 sf.p1 []
  rw [List.append_nil] at hx
  refine rows_mem.mpr ⟨fxP x, List.mem_map.mpr ⟨x, hx, rfl⟩, rwq_congr fun k hk hw => (see_num (g := .pages) hw fun s n e => ?_).symm⟩
  exact hs _ (tmAt_mem hk) s n e
theorem ex3 {f : Fx} (sf : Sound f) : rwq ts (pickM ts ["depth"]) f ∈ rowsM ts ["depth"] ((numL ts .depth 4).map fxD) := by
  obtain ⟨x, hx, _, _, hs⟩ := law_pick (ts := ts) (g := .depth) sf.d0 sf.d1 []
  rw [List.append_nil] at hx
  refine rows_mem.mpr ⟨fxD x, List.mem_map.mpr ⟨x, hx, rfl⟩, rwq_congr fun k hk hw => (see_num (g := .depth) hw fun s n e => ?_).symm⟩
  exact hs _ (tmAt_mem hk) s n e
theorem ex4 {f : Fx} (sf : Sound f) : rwq ts (pickM ts wIC) f ∈ rowsM ts wIC (kpL.map fxK) :=
  rows_mem.mpr ⟨fxK (f.kind, f.kinds), List.mem_map.mpr ⟨_, sf.kk, rfl⟩, rwq_congr fun k hk hw => see_kk hw rfl rfl⟩
theorem ex5 {f : Fx} (g : ∀ t ∈ ts, gB t.body) : rwq ts (pickM ts wAA) f ∈ rowsM ts wAA ((actL ts).map fxA) := by
  obtain ⟨B, hB, h1, h2⟩ := law_acts (ts := ts) (A := f.acts) fun t ht s n e => by
    have := g t ht
    rw [e] at this
    exact this
  exact rows_mem.mpr ⟨fxA B, List.mem_map.mpr ⟨B, hB, rfl⟩, rwq_congr fun k hk hw => (see_ac hw (fun a e => h1 _ (tmAt_mem hk) a e) fun s n e => h2 _ (tmAt_mem hk) s n e).symm⟩
theorem ex6 {f : Fx} (ok : okP (patsT ts)) : rwq ts (pickM ts wNm) f ∈ nrowsM ts := by
  refine nrows_mem.mpr ⟨_, stsM_ex ok f.name, ?_⟩
  rw [nrow_eq]
  exact rwq_congr fun k hk hw => see_nm hw rfl
/-! the product -/
theorem addCs_mem {ch : List Rw} {c : Rw} : ∀ (part acc : List Rw), c ∈ part.foldl (addC ch) acc ↔ c ∈ acc ∨ ∃ row ∈ part, ∃ c0 ∈ ch, c = c0 ++ row
  | [], acc => by simp
  | row :: part, acc => by
    rw [List.foldl_cons, addCs_mem part]
    unfold addC
    rw [List.mem_append, List.mem_map]
    simp only [List.mem_cons, exists_eq_or_imp]
    rw [or_assoc]
    refine or_congr Iff.rfl (or_congr ⟨fun ⟨a, h, e⟩ => ⟨a, h, e.symm⟩, fun ⟨a, h, e⟩ => ⟨a, h, e.symm⟩⟩ Iff.rfl)
theorem chS_mem {ch part : List Rw} {c : Rw} : c ∈ chS ch part ↔ ∃ row ∈ part, ∃ c0 ∈ ch, c = c0 ++ row := by
  unfold chS
  rw [addCs_mem]
  simp
theorem chM_mem {c : Rw} : c ∈ chM ts ↔ ∃ u1 ∈ rowsM ts ["size"] ((numL ts .size 2147483647).map fxS), ∃ u2 ∈ rowsM ts ["pages"] ((numL ts .pages 8).map fxP), ∃ u3 ∈ rowsM ts ["depth"] ((numL ts .depth 4).map fxD), ∃ u4 ∈ rowsM ts wIC (kpL.map fxK), ∃ u5 ∈ rowsM ts wAA ((actL ts).map fxA), ∃ u6 ∈ nrowsM ts, c = ((((([] ++ u1) ++ u2) ++ u3) ++ u4) ++ u5) ++ u6 := by
  unfold chM partsM
  simp only [List.foldl_cons, List.foldl_nil, chS_mem, List.mem_singleton]
  constructor
  · rintro ⟨u6, h6, _, ⟨u5, h5, _, ⟨u4, h4, _, ⟨u3, h3, _, ⟨u2, h2, _, ⟨u1, h1, _, rfl, e1⟩, rfl⟩, rfl⟩, rfl⟩, rfl⟩, rfl⟩
    exact ⟨u1, h1, u2, h2, u3, h3, u4, h4, u5, h5, u6, h6, by rw [e1]⟩
  · rintro ⟨u1, h1, u2, h2, u3, h3, u4, h4, u5, h5, u6, h6, rfl⟩
    exact ⟨u6, h6, _, ⟨u5, h5, _, ⟨u4, h4, _, ⟨u3, h3, _, ⟨u2, h2, _, ⟨u1, h1, _, rfl, rfl⟩, rfl⟩, rfl⟩, rfl⟩, rfl⟩, rfl⟩
/-! the truth list of a choice -/
theorem tr_at {val : Nat → Bool} : ∀ (c : Rw) (tr : List Bool) (k : Nat), k < tr.length → (∀ x ∈ c, x.2 = val x.1) → (c.foldl trS tr)[k]? = if k ∈ c.map (·.1) then some (val k) else tr[k]?
  | [], tr, k, _, _ => by simp
  | x :: c, tr, k, hk, h => by
    have hk2 : k < (trS tr x).length := by simpa [trS] using hk
    rw [List.foldl_cons, tr_at c (trS tr x) k hk2 fun y hy => h y (by simp [hy])]
    rw [List.map_cons]
    by_cases q : k ∈ c.map (·.1)
    · rw [if_pos q, if_pos (List.mem_cons_of_mem _ q)]
    · rw [if_neg q]
      unfold trS
      by_cases z : x.1 = k
      · rw [if_pos (by rw [← z]; exact List.mem_cons_self), ← z, List.getElem?_set_self (by rw [z]; exact hk), h x (by simp)]
      · rw [List.getElem?_set_ne z, if_neg]
        intro m
        rcases List.mem_cons.mp m with m | m
        · exact z m.symm
        · exact q m
theorem tru_val {val : Nat → Bool} {c : Rw} {n : Nat} (h : ∀ x ∈ c, x.2 = val x.1) (cov : ∀ k, k < n → k ∈ c.map (·.1)) : truM n c = (List.range n).map val := by
  apply List.ext_getElem?
  intro k
  by_cases hk : k < n
  · unfold truM
    rw [tr_at c _ k (by simpa using hk) h, if_pos (cov k hk), List.getElem?_map, List.getElem?_range hk]
    rfl
  · rw [List.getElem?_eq_none (by unfold truM; rw [trS_len n c _ (by simp)]; omega), List.getElem?_eq_none (by simpa using hk)]
theorem range_tm (f : Fx) : ((List.range ts.length).map fun k => hM (tmAt ts k) f) = ts.map fun t => hM t f := by
  apply List.ext_getElem?
  intro k
  rw [List.getElem?_map, List.getElem?_map]
  by_cases hk : k < ts.length
  · have e : tmAt ts k = ts[k] := by
      unfold tmAt
      rw [List.getD_eq_getElem?_getD, List.getElem?_eq_getElem hk]
      rfl
    rw [List.getElem?_range hk, List.getElem?_eq_getElem hk]
    show some (hM (tmAt ts k) f) = _
    rw [e]
    rfl
  · rw [List.getElem?_eq_none (by simpa using hk), List.getElem?_eq_none (by omega)]
    rfl
theorem w_six (b : Bd) : b.word ∈ (["size"] : List Str) ∨ b.word ∈ (["pages"] : List Str) ∨ b.word ∈ (["depth"] : List Str) ∨ b.word ∈ wIC ∨ b.word ∈ wAA ∨ b.word ∈ wNm := by
  cases b with
  | num g s n =>
    cases g
    · exact .inl (by decide +kernel : ("size" : Str) ∈ (["size"] : List Str))
    · exact .inr (.inl (by decide +kernel : ("pages" : Str) ∈ (["pages"] : List Str)))
    · exact .inr (.inr (.inr (.inr (.inl (by decide +kernel : ("acts" : Str) ∈ wAA)))))
    · exact .inr (.inr (.inl (by decide +kernel : ("depth" : Str) ∈ (["depth"] : List Str))))
  | isk k => exact .inr (.inr (.inr (.inl (by decide +kernel : ("is" : Str) ∈ wIC))))
  | could k => exact .inr (.inr (.inr (.inl (by decide +kernel : ("could" : Str) ∈ wIC))))
  | act k => exact .inr (.inr (.inr (.inr (.inl (by decide +kernel : ("act" : Str) ∈ wAA)))))
  | nam k => exact .inr (.inr (.inr (.inr (.inr (by decide +kernel : ("name" : Str) ∈ wNm)))))
theorem rwq_keys (pk : List Nat) (f : Fx) : (rwq ts pk f).map (·.1) = pk := by
  unfold rwq
  rw [List.map_map]
  exact List.map_id _
/-- rows of one and the same facts -/
def cat6 (ts : List Tm) (f : Fx) : Rw := ((((([] ++ rwq ts (pickM ts ["size"]) f) ++ rwq ts (pickM ts ["pages"]) f) ++ rwq ts (pickM ts ["depth"]) f) ++ rwq ts (pickM ts wIC) f) ++ rwq ts (pickM ts wAA) f) ++ rwq ts (pickM ts wNm) f
theorem cat6_tru (f : Fx) : truM ts.length (cat6 ts f) = ts.map fun t => hM t f := by
  rw [← range_tm]
  refine tru_val (val := fun k => hM (tmAt ts k) f) (fun x hx => ?_) fun k hk => ?_
  · have one : ∀ pk, x ∈ rwq ts pk f → x.2 = hM (tmAt ts x.1) f := fun pk h => by
      obtain ⟨k, _, rfl⟩ := List.mem_map.mp h
      rfl
    unfold cat6 at hx
    simp only [List.mem_append, List.not_mem_nil, false_or] at hx
    rcases hx with ((((h | h) | h) | h) | h) | h <;> exact one _ h
  · unfold cat6
    simp only [List.map_append, List.map_nil, rwq_keys, List.mem_append, List.not_mem_nil, false_or, pick_mem]
    rcases w_six (tmAt ts k).body with h | h | h | h | h | h
    · exact .inl (.inl (.inl (.inl (.inl ⟨hk, h⟩))))
    · exact .inl (.inl (.inl (.inl (.inr ⟨hk, h⟩))))
    · exact .inl (.inl (.inl (.inr ⟨hk, h⟩)))
    · exact .inl (.inl (.inr ⟨hk, h⟩))
    · exact .inl (.inr ⟨hk, h⟩)
    · exact .inr ⟨hk, h⟩
theorem cho_ex {f : Fx} (sf : Sound f) (g : ∀ t ∈ ts, gB t.body) (ok : okP (patsT ts)) : (ts.map fun t => hM t f) ∈ choM ts := by
  rw [← cat6_tru]
  exact List.mem_map.mpr ⟨_, chM_mem.mpr ⟨_, ex1 sf, _, ex2 sf, _, ex3 sf, _, ex4 sf, _, ex5 g, _, ex6 ok, rfl⟩, rfl⟩
theorem cho_sound {tr : List Bool} (g : ∀ t ∈ ts, gB t.body) (ok : okP (patsT ts)) (h : tr ∈ choM ts) : ∃ f, Sound f ∧ tr = ts.map fun t => hM t f := by
  obtain ⟨c, hc, rfl⟩ := List.mem_map.mp h
  obtain ⟨r1, h1, r2, h2, r3, h3, r4, h4, r5, h5, r6, h6, rfl⟩ := chM_mem.mp hc
  obtain ⟨g1, m1, rfl⟩ := rows_mem.mp h1
  obtain ⟨g2, m2, rfl⟩ := rows_mem.mp h2
  obtain ⟨g3, m3, rfl⟩ := rows_mem.mp h3
  obtain ⟨g4, m4, rfl⟩ := rows_mem.mp h4
  obtain ⟨g5, m5, rfl⟩ := rows_mem.mp h5
  obtain ⟨s, m6, rfl⟩ := nrows_mem.mp h6
  obtain ⟨x1, n1, rfl⟩ := List.mem_map.mp m1
  obtain ⟨x2, n2, rfl⟩ := List.mem_map.mp m2
  obtain ⟨x3, n3, rfl⟩ := List.mem_map.mp m3
  obtain ⟨x4, n4, rfl⟩ := List.mem_map.mp m4
  obtain ⟨x5, n5, rfl⟩ := List.mem_map.mp m5
  obtain ⟨nm, rfl, n6, n7⟩ := stsM_of ok s m6
  have gn : ∀ q : NF, ∀ t ∈ ts, ∀ s n, t.body = .num q s n → 0 ≤ n := fun q t ht s n e => by
    have := g t ht
    rw [e] at this
    exact this.1
  have q1 := numL_rng (by decide) (gn .size) n1
  have q2 := numL_rng (by decide) (gn .pages) n2
  have q3 := numL_rng (by decide) (gn .depth) n3
  refine ⟨⟨nm, x1, x4.1, x4.2, x2, x5, x3⟩, ⟨n7, by show nm.length ≤ 1000; omega, q1.1, q1.2, q2.1, q2.2, q3.1, q3.2, actL_le x5 n5, n4⟩, ?_⟩
  rw [← cat6_tru, nrow_eq]
  congr 1
  unfold cat6
  rw [rwq_congr (ts := ts) (ws := ["size"]) (f := fxS x1) (f' := ⟨nm, x1, x4.1, x4.2, x2, x5, x3⟩) fun k hk hw => see_num (g := .size) hw fun s n e => rfl,
    rwq_congr (ts := ts) (ws := ["pages"]) (f := fxP x2) (f' := ⟨nm, x1, x4.1, x4.2, x2, x5, x3⟩) fun k hk hw => see_num (g := .pages) hw fun s n e => rfl,
    rwq_congr (ts := ts) (ws := ["depth"]) (f := fxD x3) (f' := ⟨nm, x1, x4.1, x4.2, x2, x5, x3⟩) fun k hk hw => see_num (g := .depth) hw fun s n e => rfl,
    rwq_congr (ts := ts) (ws := wIC) (f := fxK x4) (f' := ⟨nm, x1, x4.1, x4.2, x2, x5, x3⟩) fun k hk hw => see_kk hw rfl rfl,
    rwq_congr (ts := ts) (ws := wAA) (f := fxA x5) (f' := ⟨nm, x1, x4.1, x4.2, x2, x5, x3⟩) fun k hk hw => see_ac hw (fun a e => Iff.rfl) fun s n e => rfl,
    rwq_congr (ts := ts) (ws := wNm) (f := fxW nm) (f' := ⟨nm, x1, x4.1, x4.2, x2, x5, x3⟩) fun k hk hw => see_nm hw rfl]
/-! sizes -/
def allR : List Nat → List Rw
  | [] => [[]]
  | k :: pk => (allR pk).flatMap fun r => [(k, true) :: r, (k, false) :: r]
theorem allR_len : ∀ pk, (allR pk).length = 2 ^ pk.length
  | [] => rfl
  | k :: pk => by
    show ((allR pk).flatMap _).length = _
    rw [flatMap_len (n := 2) fun a _ => rfl, allR_len pk, List.length_cons, Nat.pow_succ]
theorem allR_mem : ∀ (pk : List Nat) (r : Rw), r.map (·.1) = pk → r ∈ allR pk
  | [], r, h => by
    rw [List.map_eq_nil_iff.mp h]
    exact List.mem_singleton.mpr rfl
  | k :: pk, [], h => by simp at h
  | k :: pk, x :: r, h => by
    simp only [List.map_cons, List.cons.injEq] at h
    refine List.mem_flatMap.mpr ⟨r, allR_mem pk r h.2, ?_⟩
    obtain ⟨x1, x2⟩ := x
    have e : x1 = k := h.1
    subst e
    cases x2 <;> simp
structure pOk (p : List Nat × List Rw) : Prop where
  nd : p.2.Nodup
  key : ∀ r ∈ p.2, r.map (·.1) = p.1
theorem pOk.len {p : List Nat × List Rw} (h : pOk p) : p.2.length ≤ 2 ^ p.1.length := by
  rw [← allR_len]
  exact nodup_le h.nd fun r hr => allR_mem _ r (h.key r hr)
theorem addCs_len (ch : List Rw) : ∀ (part acc : List Rw), (part.foldl (addC ch) acc).length = acc.length + part.length * ch.length
  | [], acc => by simp
  | r :: part, acc => by
    rw [List.foldl_cons, addCs_len ch part, addC_len, List.length_cons, Nat.add_mul]
    omega
theorem fold_ok : ∀ (Ps : List (List Nat × List Rw)) (acc : List Rw) (ks : List Nat), (∀ p ∈ Ps, pOk p) → (∀ r ∈ acc, r.map (·.1) = ks) →
    ((Ps.map (·.2)).foldl chS acc).length ≤ acc.length * 2 ^ (Ps.map fun p => p.1.length).sum ∧ ∀ r ∈ (Ps.map (·.2)).foldl chS acc, r.map (·.1) = ks ++ Ps.flatMap (·.1)
  | [], acc, ks, _, h2 => ⟨by simp, fun r hr => by rw [h2 r hr]; simp⟩
  | p :: Ps, acc, ks, h1, h2 => by
    have hp := h1 p (by simp)
    obtain ⟨g1, g2⟩ := fold_ok Ps (chS acc p.2) (ks ++ p.1) (fun q hq => h1 q (by simp [hq])) (fun r hr => by
      obtain ⟨row, hrow, c0, hc0, rfl⟩ := chS_mem.mp hr
      rw [List.map_append, h2 c0 hc0, hp.key row hrow])
    refine ⟨?_, fun r hr => ?_⟩
    · have hl : (chS acc p.2).length = p.2.length * acc.length := by
        unfold chS
        rw [addCs_len]
        simp
      have h3 := hp.len
      rw [List.map_cons, List.foldl_cons, List.map_cons, List.sum_cons, Nat.pow_add]
      refine Nat.le_trans g1 ?_
      rw [hl, ← Nat.mul_assoc]
      refine Nat.mul_le_mul_right _ ?_
      rw [Nat.mul_comm]
      exact Nat.mul_le_mul_left _ h3
    · rw [List.map_cons, List.foldl_cons] at hr
      rw [g2 r hr, List.flatMap_cons, List.append_assoc]
def six (ts : List Tm) : List (List Nat × List Rw) := [(pickM ts ["size"], rowsM ts ["size"] ((numL ts .size 2147483647).map fxS)), (pickM ts ["pages"], rowsM ts ["pages"] ((numL ts .pages 8).map fxP)), (pickM ts ["depth"], rowsM ts ["depth"] ((numL ts .depth 4).map fxD)), (pickM ts wIC, rowsM ts wIC (kpL.map fxK)), (pickM ts wAA, rowsM ts wAA ((actL ts).map fxA)), (pickM ts wNm, nrowsM ts)]
theorem pOk_rows (ws : List Str) (many : List Fx) : pOk (pickM ts ws, rowsM ts ws many) := ⟨addRs_nd _ _ (by simp), fun r hr => by
  obtain ⟨g, _, rfl⟩ := rows_mem.mp hr
  exact rwq_keys _ _⟩
theorem pOk_nrows : pOk (pickM ts wNm, nrowsM ts) := ⟨addRs_nd _ _ (by simp), fun r hr => by
  obtain ⟨s, _, rfl⟩ := nrows_mem.mp hr
  unfold nrow
  rw [List.map_map]
  exact List.map_id _⟩
theorem six_ok : ∀ p ∈ six ts, pOk p := fun p hp => by
  simp only [six, List.mem_cons, List.not_mem_nil, or_false] at hp
  rcases hp with rfl | rfl | rfl | rfl | rfl | rfl
  · exact pOk_rows _ _
  · exact pOk_rows _ _
  · exact pOk_rows _ _
  · exact pOk_rows _ _
  · exact pOk_rows _ _
  · exact pOk_nrows
def in1 (ws : List Str) (w : Str) : Nat := if w ∈ ws then 1 else 0
theorem in_nf (g : NF) : in1 ["size"] g.str + (in1 ["pages"] g.str + (in1 ["depth"] g.str + (in1 wIC g.str + (in1 wAA g.str + in1 wNm g.str)))) ≤ 1 := by cases g <;> decide +kernel
theorem in_one (b : Bd) : in1 ["size"] b.word + (in1 ["pages"] b.word + (in1 ["depth"] b.word + (in1 wIC b.word + (in1 wAA b.word + in1 wNm b.word)))) ≤ 1 := by
  cases b with
  | num g s n => exact in_nf g
  | isk k => exact (by decide +kernel : in1 ["size"] "is" + (in1 ["pages"] "is" + (in1 ["depth"] "is" + (in1 wIC "is" + (in1 wAA "is" + in1 wNm "is")))) ≤ 1)
  | could k => exact (by decide +kernel : in1 ["size"] "could" + (in1 ["pages"] "could" + (in1 ["depth"] "could" + (in1 wIC "could" + (in1 wAA "could" + in1 wNm "could")))) ≤ 1)
  | act k => exact (by decide +kernel : in1 ["size"] "act" + (in1 ["pages"] "act" + (in1 ["depth"] "act" + (in1 wIC "act" + (in1 wAA "act" + in1 wNm "act")))) ≤ 1)
  | nam k => exact (by decide +kernel : in1 ["size"] "name" + (in1 ["pages"] "name" + (in1 ["depth"] "name" + (in1 wIC "name" + (in1 wAA "name" + in1 wNm "name")))) ≤ 1)
theorem pick_len (ws : List Str) : (pickM ts ws).length = ((List.range ts.length).map fun k => in1 ws (tmAt ts k).body.word).sum := by
  have e : pickM ts ws = (List.range ts.length).filter fun k => decide ((tmAt ts k).body.word ∈ ws) := by
    unfold pickM
    refine List.filter_congr fun k hk => ?_
    have hk' : k < ts.length := List.mem_range.mp hk
    unfold tmAt
    rw [List.getD_eq_getElem?_getD, List.getElem?_eq_getElem hk']
    rfl
  rw [e]
  generalize List.range ts.length = l
  induction l with
  | nil => rfl
  | cons k l ih =>
    rw [List.filter_cons, List.map_cons, List.sum_cons, ← ih]
    unfold in1
    by_cases q : (tmAt ts k).body.word ∈ ws
    · simp [q]
      omega
    · simp [q]
theorem six_sum : ((six ts).map fun p => p.1.length).sum ≤ ts.length := by
  have e : ((six ts).map fun p => p.1.length).sum = (pickM ts ["size"]).length + ((pickM ts ["pages"]).length + ((pickM ts ["depth"]).length + ((pickM ts wIC).length + ((pickM ts wAA).length + (pickM ts wNm).length)))) := by simp [six]
  rw [e, pick_len, pick_len, pick_len, pick_len, pick_len, pick_len]
  have hl : (List.range ts.length).length = ts.length := List.length_range
  generalize List.range ts.length = l at hl
  rw [← hl]
  clear hl e
  induction l with
  | nil => simp
  | cons k l ih =>
    have := in_one (tmAt ts k).body
    simp only [List.map_cons, List.sum_cons, List.length_cons]
    omega
theorem sum_take (l : List Nat) : ∀ n, (l.take n).sum ≤ l.sum := by
  induction l with
  | nil => intro n; simp
  | cons a l ih =>
    intro n
    cases n with
    | zero => simp
    | succ n =>
      have := ih n
      simp only [List.take_succ_cons, List.sum_cons]
      omega
theorem parts_six (ts : List Tm) : partsM ts = (six ts).map (·.2) := by simp only [partsM, six, List.map_cons, List.map_nil]
theorem cho_ok (g : ∀ t ∈ ts, gB t.body) (hl : ts.length ≤ 8) : choOk ts := by
  have ok := patsT_okP g hl
  refine ⟨by omega, ok, ?_, fun t ht p e => ?_, actL_len hl, fun n c hc => ?_, fun p hp r hr => ?_⟩
  · have := stsN_ok ok
    unfold stsM
    rw [List.length_map]
    omega
  · have := g t ht
    rw [e] at this
    have := this.2
    omega
  · have e := parts_six ts
    rw [e, ← List.map_take] at hc
    obtain ⟨h1, h2⟩ := fold_ok ((six ts).take n) [[]] [] (fun p hp => six_ok p (List.mem_of_mem_take hp)) (by simp)
    rw [hc] at h1 h2
    have h3 := sum_take ((six ts).map fun p => p.1.length) n
    rw [← List.map_take] at h3
    have h4 := six_sum (ts := ts)
    have h5 : 2 ^ (((six ts).take n).map fun p => p.1.length).sum ≤ 2 ^ 8 := Nat.pow_le_pow_right (by omega) (by omega)
    refine ⟨by rw [List.length_singleton, Nat.one_mul] at h1; omega, fun r hr => ⟨?_, fun x hx => ?_⟩⟩
    · have h6 := congrArg List.length (h2 r hr)
      rw [List.length_map, List.nil_append, List.length_flatMap] at h6
      omega
    · have h6 : x.1 ∈ r.map (·.1) := List.mem_map.mpr ⟨x, hx, rfl⟩
      rw [h2 r hr, List.nil_append] at h6
      obtain ⟨p, hp, hx1⟩ := List.mem_flatMap.mp h6
      have hp2 := List.mem_of_mem_take hp
      simp only [six, List.mem_cons, List.not_mem_nil, or_false] at hp2
      rcases hp2 with rfl | rfl | rfl | rfl | rfl | rfl <;> exact (pick_mem.mp hx1).1
  · have e := parts_six ts
    rw [e] at hp
    obtain ⟨q, hq, rfl⟩ := List.mem_map.mp hp
    have h6 := congrArg List.length ((six_ok q hq).key r hr)
    rw [List.length_map] at h6
    have h7 : q.1.length ≤ ts.length := by
      simp only [six, List.mem_cons, List.not_mem_nil, or_false] at hq
      rcases hq with rfl | rfl | rfl | rfl | rfl | rfl <;> exact Nat.le_trans (List.length_filter_le _ _) (by rw [List.length_range]; omega)
    omega
end
end Z
set_option Elab.async false
set_option linter.all false
set_option maxRecDepth 100000
set_option maxHeartbeats 1000000
namespace Z
open PySem PySem.Spec PyProof.Rows L2 Evl
/-! ### the decider on truth rows -/
abbrev flt (p : List Rl) : List Tm := p.flatMap fun r => r.ts
theorem seg_eq {p : List Rl} {k : Nat} {r : Rl} {h : Tm → Bool} {A B : List Bool} {f : Nat} (hg : p[k]? = some r) (hX : A.length = f) : segK p (A ++ ((flt p).map h ++ B)) f k = r.ts.map h := by
  have hk := (List.getElem?_eq_some_iff.mp hg).1
  have er : p[k] = r := by
    rw [List.getElem?_eq_getElem hk] at hg
    exact Option.some.inj hg
  have e : p = p.take k ++ (r :: p.drop (k + 1)) := by rw [← er, ← List.drop_eq_getElem_cons hk, List.take_append_drop]
  have e2 : flt p = flt (p.take k) ++ (r.ts ++ flt (p.drop (k + 1))) := by
    conv => lhs; rw [e]
    unfold flt
    rw [List.flatMap_append, List.flatMap_cons]
  have ea : atK p f k = (A ++ (flt (p.take k)).map h).length := by
    unfold atK flt
    rw [List.length_append, List.length_map, List.length_flatMap, hX]
  have et : A ++ ((flt (p.take k) ++ (r.ts ++ flt (p.drop (k + 1)))).map h ++ B) = (A ++ (flt (p.take k)).map h) ++ (r.ts.map h ++ ((flt (p.drop (k + 1))).map h ++ B)) := by
    simp only [List.map_append, List.append_assoc]
  unfold segK
  rw [ea, hg, e2, et, List.drop_left]
  have el : ((some r).map fun r : Rl => r.ts.length).getD 0 = (r.ts.map h).length := by
    rw [List.length_map]
    rfl
  rw [el, List.take_left]
theorem no_false (l : List Tm) (h : Tm → Bool) : decide (false ∉ l.map h) = l.all h := by
  induction l with
  | nil => rfl
  | cons t l ih =>
    rw [List.all_cons, ← ih]
    cases e : h t <;> simp [e]
theorem dec_eq {p : List Rl} {f : Fx} {A B : List Bool} {n : Nat} (hX : A.length = n) : decM p (A ++ ((flt p).map (fun t => hM t f) ++ B)) n = idM p f := by
  unfold decM idM
  have e : (List.range p.length).find? (fun k => decide (false ∉ segK p (A ++ ((flt p).map (fun t => hM t f) ++ B)) n k)) = (List.range p.length).find? (rOk p f) := find_congr fun k hk => by
    have hk' : k < p.length := List.mem_range.mp hk
    have hg : p[k]? = some p[k] := List.getElem?_eq_getElem hk'
    rw [seg_eq hg hX, no_false, rOk_at hg]
    rfl
  first
    | (rw [e]; done)
    | (rw [e]; cases (List.range p.length).find? (rOk p f) <;> rfl)
theorem terms_two (a b : List Rl) : termsM [a, b] = flt a ++ flt b := by simp [termsM, flt]
theorem terms_one (a : List Rl) : termsM [a] = flt a := by simp [termsM, flt]
theorem difT_eq (a b : List Rl) (f : Fx) : difT a b ((termsM [a, b]).map fun t => hM t f) = decide (vdM a (idM a f) ≠ vdM b (idM b f)) := by
  unfold difT tvd
  rw [terms_two, terms_one, List.map_append]
  have e1 := dec_eq (p := a) (f := f) (A := []) (B := (flt b).map fun t => hM t f) (n := 0) rfl
  have e2 := dec_eq (p := b) (f := f) (A := (flt a).map fun t => hM t f) (B := []) (n := (flt a).length) (by rw [List.length_map])
  rw [List.nil_append] at e1
  rw [List.append_nil] at e2
  rw [e1, e2]
theorem difV_iff {a b : List Rl} (ga : gP a) (gb : gP b) : difV a b = true ↔ ∃ f, Sound f ∧ vdM a (idM a f) ≠ vdM b (idM b f) := by
  have hl : (termsM [a, b]).length ≤ 8 := by
    rw [termsM_len]
    have := ga.n
    have := gb.n
    omega
  have g := gT ga gb
  have ok := patsT_okP g hl
  unfold difV
  rw [List.any_eq_true]
  constructor
  · rintro ⟨tr, ht, h⟩
    obtain ⟨f, sf, rfl⟩ := cho_sound g ok ht
    rw [difT_eq] at h
    exact ⟨f, sf, of_decide_eq_true h⟩
  · rintro ⟨f, sf, h⟩
    refine ⟨_, cho_ex sf g ok, ?_⟩
    rw [difT_eq]
    exact decide_eq_true h
theorem pair_ok {a b : List Rl} (ga : gP a) (gb : gP b) {d : Bool} (hd : d = true ↔ ∃ f, Sound f ∧ vdM a (idM a f) ≠ vdM b (idM b f)) : pairOk a b d := by
  refine ⟨patsM_okP (by simpa using ⟨ga, gb⟩) (by simp), fun h => ?_, fun h => ?_⟩
  · cases e : dfM a b with
    | none => rfl
    | some f =>
      have := hd.mpr ⟨f, dfM_sound ga gb e⟩
      rw [h] at this
      cases this
  · obtain ⟨f, sf, hv⟩ := hd.mp h
    cases e : dfM a b with
    | none => exact absurd e (dfM_ex ga gb sf hv)
    | some g =>
      obtain ⟨sg, hg⟩ := dfM_sound ga gb e
      exact ⟨g, rfl, sg, by rw [jI_eq, jI_eq]; exact hg⟩
theorem lawOk_all (ns : List Int) : lawOk (polM ns 0) (secM ns (polM ns 0)) := by
  obtain ⟨ga, hl⟩ := gP_pol ns 0
  have gb := gP_sec ns ga hl
  generalize secM ns (polM ns 0) = b at gb
  generalize polM ns 0 = a at ga gb
  have hd := difV_iff ga gb
  refine ⟨ga.pol, gb.pol, cho_ok (gT ga gb) ?_, pair_ok ga gb hd, pair_ok gb ga (hd.trans ⟨fun ⟨f, s, h⟩ => ⟨f, s, fun e => h e.symm⟩, fun ⟨f, s, h⟩ => ⟨f, s, fun e => h e.symm⟩⟩), patsM_okP (by simpa using ga) (by simp), (gP_sho ga).pol, patsM_okP (by simpa using ga) (by simp), patsM_okP (by simpa using ⟨ga, gP_sho ga⟩) (by simp), dfM_self ga, dfM_sho ga⟩
  rw [termsM_len]
  have := ga.n
  have := gb.n
  omega
end Z
set_option Elab.async false
set_option linter.all false
set_option maxRecDepth 100000
set_option maxHeartbeats 0
namespace Z
open PySem PySem.Spec PyProof.Rows L2 Evl
/-! The chain of the walks. Printed by gen_head.py. -/
section
variable {P : Program} {w : World} {K : PySem.W.Frag} {h : Heap} {mg : Str → Option Value}
theorem hbn (X : K.In h) (G : h.Ns mainGlobals mg) (c : He.SaysD hfa hfn K) : BN mg :=
  ⟨He.free_ok X G (c.fact 61 (f := .free "len") rfl), He.free_ok X G (c.fact 62 (f := .free "int") rfl), He.free_ok X G (c.fact 63 (f := .free "abs") rfl), He.free_ok X G (c.fact 64 (f := .free "tuple") rfl), He.free_ok X G (c.fact 65 (f := .free "list") rfl), He.free_ok X G (c.fact 66 (f := .free "sorted") rfl), He.free_ok X G (c.fact 67 (f := .free "all") rfl), He.free_ok X G (c.fact 68 (f := .free "min") rfl), He.free_ok X G (c.fact 69 (f := .free "max") rfl), He.free_ok X G (c.fact 70 (f := .free "isinstance") rfl), He.free_ok X G (c.fact 71 (f := .free "range") rfl), He.free_ok X G (c.fact 72 (f := .free "enumerate") rfl), He.free_ok X G (c.fact 73 (f := .free "zip") rfl), He.free_ok X G (c.fact 74 (f := .free "bool") rfl), He.free_ok X G (c.fact 75 (f := .free "str") rfl)⟩
theorem hgt {x : Str} {ss : List Str} (X : K.In h) (G : h.Ns mainGlobals mg) (c : (He.Fa.glo x).ok K = true) (t : He.tupB K x (ss.map He.Dv.str) = true) : GT K mg x ss := by
  refine ⟨_, He.glo_ok X G c, fun H => ?_⟩
  have := He.tupB_ok t H
  rw [List.map_map] at this
  exact this
theorem hgd {x : Str} {kvs : List (Str × Int)} {no : List Str} (X : K.In h) (G : h.Ns mainGlobals mg) (c : (He.Fa.glo x).ok K = true) (D : ∃ es n, KDict K w (He.ga K x) es n) (t : He.valsB K (He.ga K x) (kvs.map fun q => (q.1, He.Dv.int q.2)) = true) (hn : ∀ z ∈ no, PySem.W.nsIn K (He.ga K x) z = some none) : GD K w mg x kvs no := by
  obtain ⟨es, n, D⟩ := D
  refine ⟨_, es, n, He.glo_ok X G c, D, fun q hq => ?_, hn⟩
  obtain ⟨u, h1, h2⟩ := He.valsB_ok t (q := (q.1, He.Dv.int q.2)) (List.mem_map.mpr ⟨q, hq, rfl⟩)
  obtain ⟨t, rfl⟩ := h2
  exact ⟨t, h1⟩
theorem hcg (X : K.In h) (G : h.Ns mainGlobals mg) (c : He.SaysT hfa hfn hts w K) (e : hex K = true) : CG K w mg := by
  unfold hex at e
  simp only [Bool.and_eq_true] at e
  obtain ⟨e0, e1, e2, e3, e4, e5, e6, e7, e8, e9⟩ := e
  exact ⟨hgt X G (c.d.fact 82 (f := .glo "KINDS") rfl) e0,
    hgt X G (c.d.fact 83 (f := .glo "SIGNS") rfl) e1,
    hgt X G (c.d.fact 84 (f := .glo "VERDICTS") rfl) e2,
    hgt X G (c.d.fact 85 (f := .glo "ACTS") rfl) e3,
    hgd X G (c.d.fact 86 (f := .glo "MOST") rfl) (c.tab 0 rfl) e4 (fun z hz => by simp only [List.mem_cons, List.not_mem_nil, or_false] at hz; rcases hz with rfl | rfl | rfl | rfl <;> first | exact He.eqO_ok e5 | exact He.eqO_ok e6 | exact He.eqO_ok e7 | exact He.eqO_ok e8),
    hgd X G (c.d.fact 87 (f := .glo "GREATEST") rfl) (c.tab 1 rfl) e9 (fun z hz => by simp at hz),
    He.int_ok X G (c.d.fact 76 (f := .int "MOST_PATTERN" 20) rfl),
    He.int_ok X G (c.d.fact 77 (f := .int "MOST_TERMS" 3) rfl),
    He.int_ok X G (c.d.fact 78 (f := .int "MOST_RULES" 4) rfl),
    He.int_ok X G (c.d.fact 79 (f := .int "STAR" 42) rfl),
    He.int_ok X G (c.d.fact 80 (f := .int "MOST_STATES" 512) rfl),
    He.int_ok X G (c.d.fact 81 (f := .int "MOST_ACTS" 1000) rfl)⟩
theorem hlaw {f : Addr} (X : K.In h) (G : h.Ns mainGlobals mg) (hfl : mg "law" = some (.ref f)) (ct : He.SaysT hfa hfn hts w K) (e : hex K = true) :
    ∃ fd : FuncData, (∀ (s : Shared) (v : Value), BindsTo s fd ⟨[v], []⟩ [("_law_script", v)]) ∧ ∀ base : Heap, K.In base → base.Ns mainGlobals mg → FnOk P w K mg base CX0 10 f fd ["_law_script"] (SpD K d_law) := by
  have c := ct.d
  have bn := hbn X G c
  have cg := hcg X G ct e
  obtain ⟨fd, F⟩ := c.def_ 60 (d := hd "law" s_law) rfl
  have e := hfl.symm.trans (He.glo_ok X G (c.fact 60 (f := .glo "law") rfl))
  cases e
  have b := FunD.bindsA (ps := ["_law_script"]) F fun _ _ _ _ _ _ us hl => match us, hl with | [_], _ => rfl
  obtain ⟨d_0, F_0⟩ := c.def_ 0 (d := hd "_law_cell" s_law_cell) rfl
  obtain ⟨d_1, F_1⟩ := c.def_ 1 (d := hd "_law_kinds" s_law_kinds) rfl
  obtain ⟨d_2, F_2⟩ := c.def_ 2 (d := hd "_law_acts" s_law_acts) rfl
  obtain ⟨d_3, F_3⟩ := c.def_ 3 (d := hd "_law_row" s_law_row) rfl
  obtain ⟨d_4, F_4⟩ := c.def_ 4 (d := hd "_law_pattern" s_law_pattern) rfl
  obtain ⟨d_5, F_5⟩ := c.def_ 5 (d := hd "_law_body" s_law_body) rfl
  obtain ⟨d_6, F_6⟩ := c.def_ 6 (d := hd "_law_term" s_law_term) rfl
  obtain ⟨d_7, F_7⟩ := c.def_ 7 (d := hd "_law_policy" s_law_policy) rfl
  obtain ⟨d_8, F_8⟩ := c.def_ 8 (d := hd "_law_second" s_law_second) rfl
  obtain ⟨d_9, F_9⟩ := c.def_ 9 (d := hd "_law_all_terms" s_law_all_terms) rfl
  obtain ⟨d_10, F_10⟩ := c.def_ 10 (d := hd "_law_match" s_law_match) rfl
  obtain ⟨d_11, F_11⟩ := c.def_ 11 (d := hd "_law_stands" s_law_stands) rfl
  obtain ⟨d_12, F_12⟩ := c.def_ 12 (d := hd "_law_holds" s_law_holds) rfl
  obtain ⟨d_13, F_13⟩ := c.def_ 13 (d := hd "_law_rows" s_law_rows) rfl
  obtain ⟨d_14, F_14⟩ := c.def_ 14 (d := hd "_law_numbers" s_law_numbers) rfl
  obtain ⟨d_15, F_15⟩ := c.def_ 15 (d := hd "_law_kind_pairs" s_law_kind_pairs) rfl
  obtain ⟨d_16, F_16⟩ := c.def_ 16 (d := hd "_law_acts_lists" s_law_acts_lists) rfl
  obtain ⟨d_17, F_17⟩ := c.def_ 17 (d := hd "_law_patterns" s_law_patterns) rfl
  obtain ⟨d_18, F_18⟩ := c.def_ 18 (d := hd "_law_opened" s_law_opened) rfl
  obtain ⟨d_19, F_19⟩ := c.def_ 19 (d := hd "_law_stepped" s_law_stepped) rfl
  obtain ⟨d_20, F_20⟩ := c.def_ 20 (d := hd "_law_states" s_law_states) rfl
  obtain ⟨d_21, F_21⟩ := c.def_ 21 (d := hd "_law_name_rows" s_law_name_rows) rfl
  obtain ⟨d_22, F_22⟩ := c.def_ 22 (d := hd "_law_choices" s_law_choices) rfl
  obtain ⟨d_23, F_23⟩ := c.def_ 23 (d := hd "_law_verdict" s_law_verdict) rfl
  obtain ⟨d_24, F_24⟩ := c.def_ 24 (d := hd "_law_decider" s_law_decider) rfl
  obtain ⟨d_25, F_25⟩ := c.def_ 25 (d := hd "is_integer" s_is_integer) rfl
  obtain ⟨d_26, F_26⟩ := c.def_ 26 (d := hd "is_between" s_is_between) rfl
  obtain ⟨d_27, F_27⟩ := c.def_ 27 (d := hd "is_word" s_is_word) rfl
  obtain ⟨d_28, F_28⟩ := c.def_ 28 (d := hd "is_pattern" s_is_pattern) rfl
  obtain ⟨d_29, F_29⟩ := c.def_ 29 (d := hd "is_body" s_is_body) rfl
  obtain ⟨d_30, F_30⟩ := c.def_ 30 (d := hd "is_term" s_is_term) rfl
  obtain ⟨d_31, F_31⟩ := c.def_ 31 (d := hd "is_rule" s_is_rule) rfl
  obtain ⟨d_32, F_32⟩ := c.def_ 32 (d := hd "is_policy" s_is_policy) rfl
  obtain ⟨d_33, F_33⟩ := c.def_ 33 (d := hd "check" s_check) rfl
  obtain ⟨d_34, F_34⟩ := c.def_ 34 (d := hd "patterns_of" s_patterns_of) rfl
  obtain ⟨d_35, F_35⟩ := c.def_ 35 (d := hd "opened" s_opened) rfl
  obtain ⟨d_36, F_36⟩ := c.def_ 36 (d := hd "moved" s_moved) rfl
  obtain ⟨d_37, F_37⟩ := c.def_ 37 (d := hd "name_table" s_name_table) rfl
  obtain ⟨d_38, F_38⟩ := c.def_ 38 (d := hd "about" s_about) rfl
  obtain ⟨d_39, F_39⟩ := c.def_ 39 (d := hd "numbers_for" s_numbers_for) rfl
  obtain ⟨d_40, F_40⟩ := c.def_ 40 (d := hd "stands" s_stands) rfl
  obtain ⟨d_41, F_41⟩ := c.def_ 41 (d := hd "number_of" s_number_of) rfl
  obtain ⟨d_42, F_42⟩ := c.def_ 42 (d := hd "matches" s_matches) rfl
  obtain ⟨d_43, F_43⟩ := c.def_ 43 (d := hd "holds" s_holds) rfl
  obtain ⟨d_44, F_44⟩ := c.def_ 44 (d := hd "all_hold" s_all_hold) rfl
  obtain ⟨d_45, F_45⟩ := c.def_ 45 (d := hd "number_that_fits" s_number_that_fits) rfl
  obtain ⟨d_46, F_46⟩ := c.def_ 46 (d := hd "name_that_fits" s_name_that_fits) rfl
  obtain ⟨d_47, F_47⟩ := c.def_ 47 (d := hd "kind_choices" s_kind_choices) rfl
  obtain ⟨d_48, F_48⟩ := c.def_ 48 (d := hd "kinds_that_fit" s_kinds_that_fit) rfl
  obtain ⟨d_49, F_49⟩ := c.def_ 49 (d := hd "acts_that_fit" s_acts_that_fit) rfl
  obtain ⟨d_50, F_50⟩ := c.def_ 50 (d := hd "facts_that_fit" s_facts_that_fit) rfl
  obtain ⟨d_51, F_51⟩ := c.def_ 51 (d := hd "first_facts" s_first_facts) rfl
  obtain ⟨d_52, F_52⟩ := c.def_ 52 (d := hd "turned" s_turned) rfl
  obtain ⟨d_53, F_53⟩ := c.def_ 53 (d := hd "ways" s_ways) rfl
  obtain ⟨d_54, F_54⟩ := c.def_ 54 (d := hd "verdict_of" s_verdict_of) rfl
  obtain ⟨d_55, F_55⟩ := c.def_ 55 (d := hd "difference" s_difference) rfl
  obtain ⟨d_56, F_56⟩ := c.def_ 56 (d := hd "_law_is_integer" s_law_is_integer) rfl
  obtain ⟨d_57, F_57⟩ := c.def_ 57 (d := hd "_law_is_sound" s_law_is_sound) rfl
  obtain ⟨d_58, F_58⟩ := c.def_ 58 (d := hd "_law_judged" s_law_judged) rfl
  obtain ⟨d_59, F_59⟩ := c.def_ 59 (d := hd "shadowed" s_shadowed) rfl
  refine ⟨fd, fun s v => b s [v] rfl, fun base _ _ => ?_⟩
  have W_0 := w_law_cell (P := P) (w := w) (base := base) F_0 (He.glo_ok X G (c.fact 0 (f := .glo "_law_cell") rfl)) bn
  have W_1 := w_law_kinds (P := P) (w := w) (base := base) F_1 (He.glo_ok X G (c.fact 1 (f := .glo "_law_kinds") rfl)) 
  have W_2 := w_law_acts (P := P) (w := w) (base := base) F_2 (He.glo_ok X G (c.fact 2 (f := .glo "_law_acts") rfl)) 
  have W_3 := w_law_row (P := P) (w := w) (base := base) F_3 (He.glo_ok X G (c.fact 3 (f := .glo "_law_row") rfl)) bn
  have W_4 := w_law_pattern (P := P) (w := w) (base := base) F_4 (He.glo_ok X G (c.fact 4 (f := .glo "_law_pattern") rfl)) bn W_3
  have W_5 := w_law_body (P := P) (w := w) (base := base) F_5 (He.glo_ok X G (c.fact 5 (f := .glo "_law_body") rfl)) bn W_1 W_2 W_4
  have W_6 := w_law_term (P := P) (w := w) (base := base) F_6 (He.glo_ok X G (c.fact 6 (f := .glo "_law_term") rfl)) bn W_5
  have W_7 := w_law_policy (P := P) (w := w) (base := base) F_7 (He.glo_ok X G (c.fact 7 (f := .glo "_law_policy") rfl)) bn W_0 W_6
  have W_8 := w_law_second (P := P) (w := w) (base := base) F_8 (He.glo_ok X G (c.fact 8 (f := .glo "_law_second") rfl)) bn W_0 W_7
  have W_9 := w_law_all_terms (P := P) (w := w) (base := base) F_9 (He.glo_ok X G (c.fact 9 (f := .glo "_law_all_terms") rfl)) bn
  have W_10 := w_law_match (P := P) (w := w) (base := base) F_10 (He.glo_ok X G (c.fact 10 (f := .glo "_law_match") rfl)) bn
  have W_11 := w_law_stands (P := P) (w := w) (base := base) F_11 (He.glo_ok X G (c.fact 11 (f := .glo "_law_stands") rfl)) 
  have W_12 := w_law_holds (P := P) (w := w) (base := base) F_12 (He.glo_ok X G (c.fact 12 (f := .glo "_law_holds") rfl)) bn W_10 W_11
  have W_13 := w_law_rows (P := P) (w := w) (base := base) F_13 (He.glo_ok X G (c.fact 13 (f := .glo "_law_rows") rfl)) bn W_12
  have W_14 := w_law_numbers (P := P) (w := w) (base := base) F_14 (He.glo_ok X G (c.fact 14 (f := .glo "_law_numbers") rfl)) bn
  have W_15 := w_law_kind_pairs (P := P) (w := w) (base := base) F_15 (He.glo_ok X G (c.fact 15 (f := .glo "_law_kind_pairs") rfl)) W_1
  have W_16 := w_law_acts_lists (P := P) (w := w) (base := base) F_16 (He.glo_ok X G (c.fact 16 (f := .glo "_law_acts_lists") rfl)) bn W_2 W_14
  have W_17 := w_law_patterns (P := P) (w := w) (base := base) F_17 (He.glo_ok X G (c.fact 17 (f := .glo "_law_patterns") rfl)) 
  have W_18 := w_law_opened (P := P) (w := w) (base := base) F_18 (He.glo_ok X G (c.fact 18 (f := .glo "_law_opened") rfl)) bn
  have W_19 := w_law_stepped (P := P) (w := w) (base := base) F_19 (He.glo_ok X G (c.fact 19 (f := .glo "_law_stepped") rfl)) bn W_18
  have W_20 := w_law_states (P := P) (w := w) (base := base) F_20 (He.glo_ok X G (c.fact 20 (f := .glo "_law_states") rfl)) bn W_18 W_19
  have W_21 := w_law_name_rows (P := P) (w := w) (base := base) F_21 (He.glo_ok X G (c.fact 21 (f := .glo "_law_name_rows") rfl)) bn W_17 W_20
  have W_22 := w_law_choices (P := P) (w := w) (base := base) F_22 (He.glo_ok X G (c.fact 22 (f := .glo "_law_choices") rfl)) bn W_13 W_14 W_15 W_16 W_21
  have W_23 := w_law_verdict (P := P) (w := w) (base := base) F_23 (He.glo_ok X G (c.fact 23 (f := .glo "_law_verdict") rfl)) 
  have W_24 := w_law_decider (P := P) (w := w) (base := base) F_24 (He.glo_ok X G (c.fact 24 (f := .glo "_law_decider") rfl)) bn
  have W_25 := w_is_integer (P := P) (w := w) (base := base) F_25 (He.glo_ok X G (c.fact 25 (f := .glo "is_integer") rfl)) bn
  have W_26 := w_is_between (P := P) (w := w) (base := base) F_26 (He.glo_ok X G (c.fact 26 (f := .glo "is_between") rfl)) W_25
  have W_27 := w_is_word (P := P) (w := w) (base := base) F_27 (He.glo_ok X G (c.fact 27 (f := .glo "is_word") rfl)) bn
  have W_28 := w_is_pattern (P := P) (w := w) (base := base) F_28 (He.glo_ok X G (c.fact 28 (f := .glo "is_pattern") rfl)) bn cg W_26
  have W_29 := w_is_body (P := P) (w := w) (base := base) F_29 (He.glo_ok X G (c.fact 29 (f := .glo "is_body") rfl)) bn cg W_26 W_27 W_28
  have W_30 := w_is_term (P := P) (w := w) (base := base) F_30 (He.glo_ok X G (c.fact 30 (f := .glo "is_term") rfl)) bn W_29
  have W_31 := w_is_rule (P := P) (w := w) (base := base) F_31 (He.glo_ok X G (c.fact 31 (f := .glo "is_rule") rfl)) bn cg W_30 W_27
  have W_32 := w_is_policy (P := P) (w := w) (base := base) F_32 (He.glo_ok X G (c.fact 32 (f := .glo "is_policy") rfl)) bn cg W_31
  have W_33 := w_check (P := P) (w := w) (base := base) F_33 (He.glo_ok X G (c.fact 33 (f := .glo "check") rfl)) W_32
  have W_34 := w_patterns_of (P := P) (w := w) (base := base) F_34 (He.glo_ok X G (c.fact 34 (f := .glo "patterns_of") rfl)) 
  have W_35 := w_opened (P := P) (w := w) (base := base) F_35 (He.glo_ok X G (c.fact 35 (f := .glo "opened") rfl)) bn cg
  have W_36 := w_moved (P := P) (w := w) (base := base) F_36 (He.glo_ok X G (c.fact 36 (f := .glo "moved") rfl)) bn cg W_35
  have W_37 := w_name_table (P := P) (w := w) (base := base) F_37 (He.glo_ok X G (c.fact 37 (f := .glo "name_table") rfl)) bn cg W_35 W_36
  have W_38 := w_about (P := P) (w := w) (base := base) F_38 (He.glo_ok X G (c.fact 38 (f := .glo "about") rfl)) 
  have W_39 := w_numbers_for (P := P) (w := w) (base := base) F_39 (He.glo_ok X G (c.fact 39 (f := .glo "numbers_for") rfl)) bn
  have W_40 := w_stands (P := P) (w := w) (base := base) F_40 (He.glo_ok X G (c.fact 40 (f := .glo "stands") rfl)) 
  have W_41 := w_number_of (P := P) (w := w) (base := base) F_41 (He.glo_ok X G (c.fact 41 (f := .glo "number_of") rfl)) bn
  have W_42 := w_matches (P := P) (w := w) (base := base) F_42 (He.glo_ok X G (c.fact 42 (f := .glo "matches") rfl)) bn W_35 W_36
  have W_43 := w_holds (P := P) (w := w) (base := base) F_43 (He.glo_ok X G (c.fact 43 (f := .glo "holds") rfl)) bn cg W_40 W_41 W_42
  have W_44 := w_all_hold (P := P) (w := w) (base := base) F_44 (He.glo_ok X G (c.fact 44 (f := .glo "all_hold") rfl)) bn W_43
  have W_45 := w_number_that_fits (P := P) (w := w) (base := base) F_45 (He.glo_ok X G (c.fact 45 (f := .glo "number_that_fits") rfl)) cg W_38 W_39 W_44
  have W_46 := w_name_that_fits (P := P) (w := w) (base := base) F_46 (He.glo_ok X G (c.fact 46 (f := .glo "name_that_fits") rfl)) bn W_38
  have W_47 := w_kind_choices (P := P) (w := w) (base := base) F_47 (He.glo_ok X G (c.fact 47 (f := .glo "kind_choices") rfl)) bn cg
  have W_48 := w_kinds_that_fit (P := P) (w := w) (base := base) F_48 (He.glo_ok X G (c.fact 48 (f := .glo "kinds_that_fit") rfl)) W_38 W_47 W_44
  have W_49 := w_acts_that_fit (P := P) (w := w) (base := base) F_49 (He.glo_ok X G (c.fact 49 (f := .glo "acts_that_fit") rfl)) bn cg W_38 W_39 W_44
  have W_50 := w_facts_that_fit (P := P) (w := w) (base := base) F_50 (He.glo_ok X G (c.fact 50 (f := .glo "facts_that_fit") rfl)) W_45 W_46 W_48 W_49
  have W_51 := w_first_facts (P := P) (w := w) (base := base) F_51 (He.glo_ok X G (c.fact 51 (f := .glo "first_facts") rfl)) W_50
  have W_52 := w_turned (P := P) (w := w) (base := base) F_52 (He.glo_ok X G (c.fact 52 (f := .glo "turned") rfl)) 
  have W_53 := w_ways (P := P) (w := w) (base := base) F_53 (He.glo_ok X G (c.fact 53 (f := .glo "ways") rfl)) bn W_52
  have W_54 := w_verdict_of (P := P) (w := w) (base := base) F_54 (He.glo_ok X G (c.fact 54 (f := .glo "verdict_of") rfl)) 
  have W_55 := w_difference (P := P) (w := w) (base := base) F_55 (He.glo_ok X G (c.fact 55 (f := .glo "difference") rfl)) bn W_33 W_34 W_37 W_51 W_53 W_50 W_54
  have W_56 := w_law_is_integer (P := P) (w := w) (base := base) F_56 (He.glo_ok X G (c.fact 56 (f := .glo "_law_is_integer") rfl)) bn
  have W_57 := w_law_is_sound (P := P) (w := w) (base := base) F_57 (He.glo_ok X G (c.fact 57 (f := .glo "_law_is_sound") rfl)) bn W_56 W_2 W_15
  have W_58 := w_law_judged (P := P) (w := w) (base := base) F_58 (He.glo_ok X G (c.fact 58 (f := .glo "_law_judged") rfl)) bn W_12
  have W_59 := w_shadowed (P := P) (w := w) (base := base) F_59 (He.glo_ok X G (c.fact 59 (f := .glo "shadowed") rfl)) bn W_33 W_34 W_37 W_51 W_53
  exact ok_law F bn W_7 W_8 W_9 W_22 W_23 W_24 W_55 W_57 W_58 W_59
end
end Z
set_option Elab.async false
set_option linter.all false
set_option maxRecDepth 100000
set_option maxHeartbeats 0
/-! The law. -/
namespace Z
open PySem PySem.Spec PyProof.Rows L2 Evl
theorem sp_law {K : PySem.W.Frag} {H : Hp} {a : Addr} {ns : List Int} (hS : SqL K H a (ns.map V.int)) : SpD K d_law [.ref a] H (fun v _ => v = .bl true) fun _ _ _ => False := by
  refine ⟨H, [scrD ns], .bool true, Ex.refl H, .cons (.scr hS) .nil, ⟨ns, lawOk_all ns, rfl, rfl⟩, fun v G' H' _ hv => ?_⟩
  cases hv
  rfl
end Z
open PySem PySem.W PySem.Calls PyProof.Rows
theorem PySem.Challenge.cw_stillroom_k76_whole_differences_holds : PySem.Challenge.rw_stillroom_k76_whole_differences.Holds := by
  w_on; o_law
  refine HandSHeadRun.head_any (r := OpenLaw.row PySem.Challenge.rw_stillroom_k76_whole_differences) (q := view (OpenLaw.row PySem.Challenge.rw_stillroom_k76_whole_differences).prog [81]) (H := Z.hk) (ob := Z.hob) (M := 4000) (loose := Z.hloose) (d := HandSHeadRun.topDef (OpenLaw.row PySem.Challenge.rw_stillroom_k76_whole_differences).prog 81) (kwd := []) Z.hob_eq
    (by kernel_rfl) (fun s => by kernel_rfl) Z.hrun (by kernel_rfl) (by kernel_rfl) (by kernel_rfl) (by rfl) (by first | assumption | decide +kernel) (by decide +kernel) ⟨rfl, rfl, rfl, rfl, rfl, by decide +kernel⟩ ?hw ?hc
  case hw => w_witness2
  case hc =>
    refine L2.walk_ofE (l := PySem.Challenge.rw_stillroom_k76_whole_differences) (n := 63) (k := 10) (x := "_law_script") (CX := L2.CX0) rfl (by decide) (by kernel_rfl) ⟨rfl, by decide, by decide⟩ ?F (fun _ _ _ _ z => z)
    intro w mg fa h Y G hmg0
    obtain ⟨K, KX, c⟩ := Y
    have hmg : mg ("law" : PySem.Str) = some (.ref fa) := by
      have e : (HandSHeadRun.topDef (OpenLaw.row PySem.Challenge.rw_stillroom_k76_whole_differences).prog 81).name = ("law" : PySem.Str) := by kernel_rfl
      rw [← e]
      exact hmg0
    obtain ⟨fd, hb, hF⟩ := Z.hlaw (P := (PySem.Challenge.rw_stillroom_k76_whole_differences).prog) (w := w) KX G hmg c.t c.more
    exact ⟨K, fd, Z.SpD K Z.d_law, KX, hb, fun H a ns hl _ hS => Z.sp_law hS, hF⟩
