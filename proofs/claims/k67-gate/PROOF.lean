import PyProof.Rows.All
import Wide.All
import OpenK.AllK
import Wide.FinOn
import HandS.ForMost
import HandS.ForExc
import HandS.Lambda
import HandS.Deep
import HandS.TupAny
import HandS.TupMul
import KE.GoesMore
import HandS.Style
import HandS.Conv
import HandS.Words
import HandS.WordsExc
import HandS.TryMany
import HandS.ExcIs
import HandS.IsInst
import HandS.EndTab
import PyProof.ReprRoads
import PySem.Challenge.RW_roomways_k67_whole_houses_with_a_gate
import PyProof.ReprBulk
set_option Elab.async false
set_option linter.all false
set_option maxRecDepth 100000
set_option maxHeartbeats 4000000
/-! VA: data by value, colours, the relation between an environment and the abstract heap. -/
namespace VL
open PySem PySem.Spec L2
open PyProof.Rows hiding St

abbrev Dt := PyData
inductive Cl where
  | sl (i : Nat) | tm (k : Nat) | bs | jk
  deriving DecidableEq
abbrev Col := Addr → Option Cl
def Col.set (c : Col) (p : Addr) (x : Option Cl) : Col := fun b => if b = p then x else c b
theorem Col.set_same {c : Col} {p : Addr} {x : Option Cl} : c.set p x p = x := if_pos rfl
theorem Col.set_ne {c : Col} {p b : Addr} {x : Option Cl} (h : b ≠ p) : c.set p x b = c b := if_neg h
/-- colour i becomes colour j -/
def Col.mv (c : Col) (i : Cl) (j : Option Cl) : Col := fun b => if c b = some i then j else c b
theorem Col.mv_at {c : Col} {i : Cl} {j : Option Cl} {b : Addr} (h : c b = some i) : c.mv i j b = j := if_pos h
theorem Col.mv_ne {c : Col} {i : Cl} {j : Option Cl} {b : Addr} (h : c b ≠ some i) : c.mv i j b = c b := if_neg h

def kD : Key → Dt
  | .inl i => .int i
  | .inr x => .str x

/-! ### data that stands still -/
mutual
inductive Im (K : PySem.W.Frag) (c : Col) (H : Hp) : V → Dt → Prop
  | non : Im K c H .non .none
  | bl (b : Bool) : Im K c H (.bl b) (.bool b)
  | int (i : Int) : Im K c H (.int i) (.int i)
  | str (x : Str) : Im K c H (.str x) (.str x)
  | tup {a : Addr} {xs : List V} {ds : List Dt} : SqT K H a xs → Ims K c H xs ds → Im K c H (.ref a) (.tuple ds)
  | lst {a : Addr} {xs : List V} {ds : List Dt} : c a = none → H a = some (.lst xs) → Ims K c H xs ds → Im K c H (.ref a) (.list ds)
  | dic {a : Addr} {kvs : List (Key × V)} {es : List (Dt × Dt)} : c a = none → H a = some (.dK kvs) → Kvs K c H kvs es → Im K c H (.ref a) (.dict es)
inductive Ims (K : PySem.W.Frag) (c : Col) (H : Hp) : List V → List Dt → Prop
  | nil : Ims K c H [] []
  | cons {v : V} {vs : List V} {d : Dt} {ds : List Dt} : Im K c H v d → Ims K c H vs ds → Ims K c H (v :: vs) (d :: ds)
inductive Kvs (K : PySem.W.Frag) (c : Col) (H : Hp) : List (Key × V) → List (Dt × Dt) → Prop
  | nil : Kvs K c H [] []
  | cons {k : Key} {v : V} {kvs : List (Key × V)} {d : Dt} {es : List (Dt × Dt)} : Im K c H v d → Kvs K c H kvs es → Kvs K c H ((k, v) :: kvs) ((kD k, d) :: es)
end

/-- what keeps data -/
structure Kp (c : Col) (H : Hp) (c' : Col) (H' : Hp) : Prop where
  obj : ∀ a u, H a = some u → (c a = none ∨ c a = some .bs) → H' a = some u ∧ c' a = c a
  tup : ∀ a xs, H a = some (.tup xs) → H' a = some (.tup xs)
  frz : ∀ a o u, H a = some (.frz o u) → H' a = some (.frz o u)
theorem Kp.refl {c : Col} {H : Hp} : Kp c H c H := ⟨fun _ _ h _ => ⟨h, rfl⟩, fun _ _ h => h, fun _ _ _ h => h⟩
theorem Kp.trans {c c1 c2 : Col} {H H1 H2 : Hp} (k : Kp c H c1 H1) (l : Kp c1 H1 c2 H2) : Kp c H c2 H2 where
  obj := fun a u h hc => by
    obtain ⟨h1, e1⟩ := k.obj a u h hc
    obtain ⟨h2, e2⟩ := l.obj a u h1 (by rw [e1]; exact hc)
    exact ⟨h2, e2.trans e1⟩
  tup := fun a xs h => l.tup a xs (k.tup a xs h)
  frz := fun a o u h => l.frz a o u (k.frz a o u h)
theorem Kp.rd {c c' : Col} {H H' : Hp} (k : Kp c H c' H') {a : Addr} {u : HO} (hc : c a = none) (h : H a = some u) : H' a = some u ∧ c' a = none :=
  ⟨(k.obj a u h (.inl hc)).1, (k.obj a u h (.inl hc)).2.trans hc⟩
theorem Kp.sqt {c c' : Col} {H H' : Hp} (k : Kp c H c' H') {K : PySem.W.Frag} {a : Addr} {xs : List V} (h : SqT K H a xs) : SqT K H' a xs := by
  rcases h with (h | ⟨o, h⟩) | h
  · exact .inl (.inl (k.tup a xs h))
  · exact .inl (.inr ⟨o, k.frz a o _ h⟩)
  · exact .inr h
mutual
theorem Im.kp {K : PySem.W.Frag} {c c' : Col} {H H' : Hp} (k : Kp c H c' H') : ∀ {v : V} (d : Dt), Im K c H v d → Im K c' H' v d
  | _, .none, .non => .non
  | _, .bool _, .bl b => .bl b
  | _, .int _, .int i => .int i
  | _, .str _, .str x => .str x
  | _, .tuple ds, .tup h hs => .tup (k.sqt h) (Ims.kp k ds hs)
  | _, .list ds, .lst hc h hs => .lst (k.rd hc h).2 (k.rd hc h).1 (Ims.kp k ds hs)
  | _, .dict es, .dic hc h hs => .dic (k.rd hc h).2 (k.rd hc h).1 (Kvs.kp k es hs)
theorem Ims.kp {K : PySem.W.Frag} {c c' : Col} {H H' : Hp} (k : Kp c H c' H') : ∀ {vs : List V} (ds : List Dt), Ims K c H vs ds → Ims K c' H' vs ds
  | _, [], .nil => .nil
  | _, d :: ds, .cons h hs => .cons (Im.kp k d h) (Ims.kp k ds hs)
theorem Kvs.kp {K : PySem.W.Frag} {c c' : Col} {H H' : Hp} (k : Kp c H c' H') : ∀ {kvs : List (Key × V)} (es : List (Dt × Dt)), Kvs K c H kvs es → Kvs K c' H' kvs es
  | _, [], .nil => .nil
  | _, (_, d) :: es, .cons h hs => .cons (Im.kp k d h) (Kvs.kp k es hs)
end
theorem Ims.length {K : PySem.W.Frag} {c : Col} {H : Hp} : ∀ {vs : List V} {ds : List Dt}, Ims K c H vs ds → vs.length = ds.length
  | _, _, .nil => rfl
  | _, _, .cons _ h => congrArg (· + 1) h.length
theorem Ims.get {K : PySem.W.Frag} {c : Col} {H : Hp} : ∀ {vs : List V} {ds : List Dt} {i : Nat} {d : Dt}, Ims K c H vs ds → ds[i]? = some d → ∃ v, vs[i]? = some v ∧ Im K c H v d
  | _, _, _, _, .nil, e => by simp at e
  | _, _, 0, _, .cons h _, e => by simp at e; subst e; exact ⟨_, rfl, h⟩
  | _, _, i + 1, _, .cons _ hs, e => by
    obtain ⟨v, h1, h2⟩ := Ims.get (i := i) hs (by simpa using e)
    exact ⟨v, by simpa using h1, h2⟩
theorem Ims.getV {K : PySem.W.Frag} {c : Col} {H : Hp} {vs : List V} {ds : List Dt} {i : Nat} {v : V} (h : Ims K c H vs ds) (e : vs[i]? = some v) : ∃ d, ds[i]? = some d ∧ Im K c H v d := by
  have hi : i < ds.length := by rw [← h.length]; exact (List.getElem?_eq_some_iff.mp e).1
  obtain ⟨v', h1, h2⟩ := h.get (List.getElem?_eq_getElem hi)
  rw [e] at h1
  cases h1
  exact ⟨_, List.getElem?_eq_getElem hi, h2⟩
theorem Ims.append {K : PySem.W.Frag} {c : Col} {H : Hp} : ∀ {vs ws : List V} {ds es : List Dt}, Ims K c H vs ds → Ims K c H ws es → Ims K c H (vs ++ ws) (ds ++ es)
  | _, _, _, _, .nil, h => h
  | _, _, _, _, .cons a b, h => .cons a (b.append h)
theorem Ims.take {K : PySem.W.Frag} {c : Col} {H : Hp} : ∀ {vs : List V} {ds : List Dt} (n : Nat), Ims K c H vs ds → Ims K c H (vs.take n) (ds.take n)
  | _, _, 0, _ => .nil
  | _, _, _ + 1, .nil => .nil
  | _, _, n + 1, .cons h hs => .cons h (hs.take n)
theorem Ims.drop {K : PySem.W.Frag} {c : Col} {H : Hp} : ∀ {vs : List V} {ds : List Dt} (n : Nat), Ims K c H vs ds → Ims K c H (vs.drop n) (ds.drop n)
  | _, _, 0, h => h
  | _, _, _ + 1, .nil => .nil
  | _, _, n + 1, .cons _ hs => hs.drop n
theorem Ims.snoc {K : PySem.W.Frag} {c : Col} {H : Hp} {vs : List V} {ds : List Dt} {v : V} {d : Dt} (h : Ims K c H vs ds) (g : Im K c H v d) : Ims K c H (vs ++ [v]) (ds ++ [d]) := h.append (.cons g .nil)
theorem Ims.reverse {K : PySem.W.Frag} {c : Col} {H : Hp} : ∀ {vs : List V} {ds : List Dt}, Ims K c H vs ds → Ims K c H vs.reverse ds.reverse
  | _, _, .nil => .nil
  | _, _, .cons h hs => by rw [List.reverse_cons, List.reverse_cons]; exact hs.reverse.snoc h
theorem Ims.set {K : PySem.W.Frag} {c : Col} {H : Hp} {v : V} {d : Dt} (g : Im K c H v d) : ∀ {vs : List V} {ds : List Dt} (i : Nat), Ims K c H vs ds → Ims K c H (vs.set i v) (ds.set i d)
  | _, _, _, .nil => .nil
  | _, _, 0, .cons _ hs => .cons g hs
  | _, _, i + 1, .cons h hs => .cons h (Ims.set g i hs)
theorem Ims.eraseIdx {K : PySem.W.Frag} {c : Col} {H : Hp} : ∀ {vs : List V} {ds : List Dt} (i : Nat), Ims K c H vs ds → Ims K c H (vs.eraseIdx i) (ds.eraseIdx i)
  | _, _, _, .nil => .nil
  | _, _, 0, .cons _ hs => hs
  | _, _, i + 1, .cons h hs => .cons h (hs.eraseIdx i)
theorem Ims.ints {K : PySem.W.Frag} {c : Col} {H : Hp} : ∀ (ns : List Int), Ims K c H (ns.map V.int) (ns.map PyData.int)
  | [] => .nil
  | n :: ns => .cons (.int n) (Ims.ints ns)
theorem Ims.of_ints {K : PySem.W.Frag} {c : Col} {H : Hp} : ∀ {vs : List V} (ns : List Int), Ims K c H vs (ns.map PyData.int) → vs = ns.map V.int
  | _, [], .nil => rfl
  | _, n :: ns, .cons (.int _) hs => by rw [Ims.of_ints ns hs]; rfl

/-! ### owned objects, environments -/
inductive Ob where
  | lst (ds : List Dt)
  | dic (es : List (Dt × Dt))
  | pot (cs : List Int) (m t : Int)
  /-- the script: read by its own def alone -/
  | scr (ns : List Int)
  /-- a list of lists, each its own -/
  | grid (rows : List (List Dt))
inductive Tv where
  | val (d : Dt) | own (o : Ob) | io (o : Ob)
abbrev En := List (Option Tv)
/-- an expression's result: a thing of its own, or the owned thing of a slot -/
inductive R where
  | tmp (t : Tv) | bor (i : Nat)

inductive Gr (K : PySem.W.Frag) (c : Col) (H : Hp) (i : Cl) : List Addr → List (List Dt) → Prop
  | nil : Gr K c H i [] []
  | cons {b : Addr} {as : List Addr} {vs : List V} {ds : List Dt} {rs : List (List Dt)} : c b = some i → H b = some (.lst vs) → Ims K c H vs ds → Gr K c H i as rs → Gr K c H i (b :: as) (ds :: rs)
theorem Gr.length {K : PySem.W.Frag} {c : Col} {H : Hp} {i : Cl} : ∀ {as : List Addr} {rs : List (List Dt)}, Gr K c H i as rs → as.length = rs.length
  | _, _, .nil => rfl
  | _, _, .cons _ _ _ h => congrArg (· + 1) h.length
def ObAt (K : PySem.W.Frag) (c : Col) (H : Hp) (i : Cl) (a : Addr) : Ob → Prop
  | .grid rows => c a = some i ∧ ∃ as : List Addr, H a = some (.lst (as.map V.ref)) ∧ a ∉ as ∧ as.Nodup ∧ Gr K c H i as rows
  | .lst ds => c a = some i ∧ ∃ vs, H a = some (.lst vs) ∧ Ims K c H vs ds
  | .dic es => c a = some i ∧ ∃ kvs, H a = some (.dK kvs) ∧ Kvs K c H kvs es
  | .pot cs m t => c a = some i ∧ ∃ b, b ≠ a ∧ c b = some i ∧ H a = some (.lst [.ref b, .int m, .int t]) ∧ H b = some (.lst (cs.map V.int))
  | .scr ns => (∃ o, H a = some (.frz o (.lst (ns.map V.int)))) ∨ SqL K (fun _ => none) a (ns.map V.int)
/-- the things of colour i stay, with colour j -/
def KM (i : Cl) (j : Cl) (c : Col) (H : Hp) (c' : Col) (H' : Hp) : Prop := ∀ b u, c b = some i → H b = some u → H' b = some u ∧ c' b = some j
theorem KM.refl {i : Cl} {c : Col} {H : Hp} : KM i i c H c H := fun _ _ h g => ⟨g, h⟩
theorem Gr.mv {K : PySem.W.Frag} {c c' : Col} {H H' : Hp} {i j : Cl} (k : Kp c H c' H') (m : KM i j c H c' H') : ∀ {as : List Addr} {rs : List (List Dt)}, Gr K c H i as rs → Gr K c' H' j as rs
  | _, _, .nil => .nil
  | _, _, .cons h1 h2 h3 h4 => .cons (m _ _ h1 h2).2 (m _ _ h1 h2).1 (h3.kp k) (h4.mv k m)
theorem ObAt.mv {K : PySem.W.Frag} {c c' : Col} {H H' : Hp} {i j : Cl} {a : Addr} {o : Ob} (h : ObAt K c H i a o) (k : Kp c H c' H') (m : KM i j c H c' H') : ObAt K c' H' j a o := by
  cases o with
  | lst ds =>
    obtain ⟨hc, vs, hv, hs⟩ := h
    exact ⟨(m _ _ hc hv).2, vs, (m _ _ hc hv).1, hs.kp k⟩
  | dic es =>
    obtain ⟨hc, vs, hv, hs⟩ := h
    exact ⟨(m _ _ hc hv).2, vs, (m _ _ hc hv).1, hs.kp k⟩
  | pot cs p t =>
    obtain ⟨hc, b, hb, hcb, h1, h2⟩ := h
    exact ⟨(m _ _ hc h1).2, b, hb, (m _ _ hcb h2).2, (m _ _ hc h1).1, (m _ _ hcb h2).1⟩
  | scr ns =>
    exact h.imp (fun ⟨q, hq⟩ => ⟨q, k.frz _ _ _ hq⟩) id
  | grid rows =>
    obtain ⟨hc, as, h1, h2, h3, h4⟩ := h
    exact ⟨(m _ _ hc h1).2, as, (m _ _ hc h1).1, h2, h3, h4.mv k m⟩
def TvOk (K : PySem.W.Frag) (c : Col) (H : Hp) (i : Cl) : Tv → V → Prop
  | .val d, v => Im K c H v d
  | .own o, v => ∃ a, v = .ref a ∧ ObAt K c H i a o
  | .io o, v => ∃ a, v = .ref a ∧ ObAt K c H i a o
theorem TvOk.mv {K : PySem.W.Frag} {c c' : Col} {H H' : Hp} {i j : Cl} {t : Tv} {v : V} (h : TvOk K c H i t v) (k : Kp c H c' H') (m : KM i j c H c' H') : TvOk K c' H' j t v := by
  cases t with
  | val d => exact Im.kp k d h
  | own o =>
    obtain ⟨a, e, h⟩ := h
    exact ⟨a, e, h.mv k m⟩
  | io o =>
    obtain ⟨a, e, h⟩ := h
    exact ⟨a, e, h.mv k m⟩
def ROk (K : PySem.W.Frag) (c : Col) (H : Hp) (env : En) (σ : St) (k : Nat) : R → V → Prop
  | .tmp t, v => TvOk K c H (.tm k) t v
  | .bor i, v => σ[i]? = some (some v)
/-- the entry: heap, colours, what may be written -/
structure Bs where
  H : Hp
  c : Col
  io : Addr → Prop
  s : St
  /-- the tables of code objects; the names that they bear -/
  T : Addr → Str → Prop := fun _ _ => False
/-- a table, its code objects -/
def TabC (c : Col) (H : Hp) (P : Addr) (q : Str) : Prop := (c P = none ∨ c P = some .bs) ∧ ∃ ps : Array Value, H P = some (.tbl ps) ∧ TriplesOk ps.toList ∧
  ∀ (pos : Pos) (cv : Value), codeAmong pos ps.toList = some cv → ∃ b, cv = .ref b ∧ (c b = none ∨ c b = some .bs) ∧ H b = some (LamX.CodeO b q)
theorem TabC.kp {c c' : Col} {H H' : Hp} {P : Addr} {q : Str} (h : TabC c H P q) (k : Kp c H c' H') : TabC c' H' P q := by
  obtain ⟨h1, ps, h2, h3, h4⟩ := h
  obtain ⟨g1, g2⟩ := k.obj P _ h2 h1
  refine ⟨by rw [g2]; exact h1, ps, g1, h3, fun pos cv hc => ?_⟩
  obtain ⟨b, e1, e2, e3⟩ := h4 pos cv hc
  obtain ⟨g3, g4⟩ := k.obj b _ e3 e2
  exact ⟨b, e1, by rw [g4]; exact e2, g3⟩
structure Rel (B : Bs) (K : PySem.W.Frag) (c : Col) (env : En) (τ : List (R × V)) (σ : St) (H : Hp) : Prop where
  len : env.length = σ.length
  sl : ∀ (i : Nat) (t : Tv), env[i]? = some (some t) → ∃ v, σ[i]? = some (some v) ∧ TvOk K c H (.sl i) t v
  tm : ∀ (k : Nat) (r : R) (v : V), τ[k]? = some (r, v) → ROk K c H env σ k r v
  fr : ∀ b u, B.H b = some u → ¬ B.io b → H b = some u ∧ c b = B.c b
  bs : ∀ b u, B.H b = some u → ¬ B.io b → B.c b = none ∨ B.c b = some .bs
  io : ∀ (i : Nat) (o : Ob), env[i]? = some (some (.io o)) → σ[i]? = B.s[i]?
  tb : ∀ P q, B.T P q → TabC c H P q
section
variable {B : Bs} {K : PySem.W.Frag} {c c' : Col} {env env' : En} {τ : List (R × V)} {σ σ' : St} {H H' : Hp}
theorem ROk.kp {k : Nat} {r : R} {v : V} (h : ROk K c H env σ k r v) (kp : Kp c H c' H') (m : KM (.tm k) (.tm k) c H c' H') : ROk K c' H' env σ k r v := by
  cases r with
  | tmp t => exact TvOk.mv h kp m
  | bor i => exact h
theorem Rel.kp (R : Rel B K c env τ σ H) (k : Kp c H c' H') (m : ∀ j, (∃ i, j = .sl i ∧ i < env.length) ∨ (∃ i, j = .tm i ∧ i < τ.length) → KM j j c H c' H') : Rel B K c' env τ σ H' where
  len := R.len
  sl := fun i t h => by
    obtain ⟨v, h1, h2⟩ := R.sl i t h
    exact ⟨v, h1, h2.mv k (m _ (.inl ⟨i, rfl, (List.getElem?_eq_some_iff.mp h).1⟩))⟩
  tm := fun i r v h => (R.tm i r v h).kp k (m _ (.inr ⟨i, rfl, (List.getElem?_eq_some_iff.mp h).1⟩))
  fr := fun b u h n => by
    obtain ⟨h1, e1⟩ := R.fr b u h n
    obtain ⟨h2, e2⟩ := k.obj b u h1 (by rw [e1]; exact R.bs b u h n)
    exact ⟨h2, e2.trans e1⟩
  bs := R.bs
  io := R.io
  tb := fun P q ht => (R.tb P q ht).kp k
theorem Rel.pop {x : R × V} (h : Rel B K c env (τ ++ [x]) σ H) : Rel B K c env τ σ H :=
  ⟨h.len, h.sl, fun k r v e => h.tm k r v (by rw [List.getElem?_append_left (List.getElem?_eq_some_iff.mp e).1]; exact e), h.fr, h.bs, h.io, h.tb⟩
theorem Rel.pops : ∀ {ys : List (R × V)}, Rel B K c env (τ ++ ys) σ H → Rel B K c env τ σ H := fun {ys} h =>
  ⟨h.len, h.sl, fun k r v e => h.tm k r v (by rw [List.getElem?_append_left (List.getElem?_eq_some_iff.mp e).1]; exact e), h.fr, h.bs, h.io, h.tb⟩
theorem Rel.push {r : R} {v : V} (h : Rel B K c env τ σ H) (hr : ROk K c H env σ τ.length r v) : Rel B K c env (τ ++ [(r, v)]) σ H := by
  refine ⟨h.len, h.sl, fun k r' v' e => ?_, h.fr, h.bs, h.io, h.tb⟩
  rcases Nat.lt_trichotomy k τ.length with hk | hk | hk
  · rw [List.getElem?_append_left hk] at e
    exact h.tm k r' v' e
  · subst hk
    rw [List.getElem?_append_right (Nat.le_refl _), Nat.sub_self] at e
    cases e
    exact hr
  · rw [List.getElem?_eq_none (by rw [List.length_append, List.length_singleton]; omega)] at e
    exact nomatch e
theorem Rel.top {r : R} {v : V} (h : Rel B K c env (τ ++ [(r, v)]) σ H) : ROk K c H env σ τ.length r v :=
  h.tm τ.length r v (by rw [List.getElem?_append_right (Nat.le_refl _), Nat.sub_self]; rfl)

/-! ### new things -/
theorem Kp.new {p : Addr} {o : HO} {x : Option Cl} (hp : H p = none) : Kp c H (c.set p x) (upd H p o) where
  obj := fun a u h _ => by rw [upd_ne (ne_of_none h hp), Col.set_ne (ne_of_none h hp)]; exact ⟨h, rfl⟩
  tup := fun a xs h => by rw [upd_ne (ne_of_none h hp)]; exact h
  frz := fun a o u h => by rw [upd_ne (ne_of_none h hp)]; exact h
theorem KM.new {p : Addr} {o : HO} {x : Option Cl} {j : Cl} (hp : H p = none) : KM j j c H (c.set p x) (upd H p o) := fun b u hc h => by
  rw [upd_ne (ne_of_none h hp), Col.set_ne (ne_of_none h hp)]; exact ⟨h, hc⟩
theorem Rel.alloc {p : Addr} {o : HO} (x : Option Cl) (h : Rel B K c env τ σ H) (hp : H p = none) : Rel B K (c.set p x) env τ σ (upd H p o) := h.kp (.new hp) fun _ _ => .new hp
/-- what a step makes: data that is there, a new tuple, a new list, a new dict -/
def Nw (K : PySem.W.Frag) (c : Col) (H : Hp) (t : Tv) (v : V) (H' : Hp) : Prop :=
  match t with
  | .val d => (H' = H ∧ Im K c H v d) ∨ ∃ p xs ds, v = .ref p ∧ d = .tuple ds ∧ H p = none ∧ H' = upd H p (.tup xs) ∧ Ims K c H xs ds
  | .own (.lst ds) => ∃ p xs, v = .ref p ∧ H p = none ∧ H' = upd H p (.lst xs) ∧ Ims K c H xs ds
  | .own (.dic es) => ∃ p kvs, v = .ref p ∧ H p = none ∧ H' = upd H p (.dK kvs) ∧ Kvs K c H kvs es
  | .own _ => False
  | .io _ => False
theorem Rel.new {t : Tv} {v : V} (h : Rel B K c env τ σ H) (n : Nw K c H t v H') : ∃ c', Rel B K c' env (τ ++ [(.tmp t, v)]) σ H' := by
  cases t with
  | val d =>
    rcases n with ⟨rfl, n⟩ | ⟨p, xs, ds, rfl, rfl, hp, rfl, n⟩
    · exact ⟨c, h.push n⟩
    · refine ⟨c.set p none, (h.alloc none hp).push ?_⟩
      exact .tup (.inl (.inl upd_same)) (n.kp (.new hp))
  | own o =>
    cases o with
    | lst ds =>
      obtain ⟨p, xs, rfl, hp, rfl, n⟩ := n
      exact ⟨c.set p (some (.tm τ.length)), (h.alloc _ hp).push ⟨p, rfl, Col.set_same, xs, upd_same, n.kp (.new hp)⟩⟩
    | dic es =>
      obtain ⟨p, xs, rfl, hp, rfl, n⟩ := n
      exact ⟨c.set p (some (.tm τ.length)), (h.alloc _ hp).push ⟨p, rfl, Col.set_same, xs, upd_same, n.kp (.new hp)⟩⟩
    | pot _ _ _ => exact n.elim
    | scr _ => exact n.elim
    | grid _ => exact n.elim
  | io o => exact n.elim

/-! ### views -/
def obD : Ob → Option Dt
  | .lst ds => some (.list ds)
  | .dic es => some (.dict es)
  | .pot _ _ _ => none
  | .scr _ => none
  | .grid _ => none
/-- .. frozen -/
def obZ : Ob → Option Dt
  | .lst ds => some (.list ds)
  | .dic es => some (.dict es)
  | .pot _ _ _ => none
  | .scr _ => none
  | .grid rows => some (.list (rows.map PyData.list))
def tvw : Tv → Option Dt
  | .val d => some d
  | .own o => obD o
  | .io o => obD o
/-- what can come to stand still -/
def tvz : Tv → Option Dt
  | .val d => some d
  | .own o => obZ o
  | .io _ => none
def vw (env : En) : R → Option Dt
  | .tmp t => tvw t
  | .bor i => match env[i]? with
    | some (some t) => tvw t
    | _ => none
inductive Vw (K : PySem.W.Frag) (c : Col) (H : Hp) : V → Dt → Prop
  | im {v : V} {d : Dt} : Im K c H v d → Vw K c H v d
  | lst {a : Addr} {xs : List V} {ds : List Dt} : H a = some (.lst xs) → Ims K c H xs ds → Vw K c H (.ref a) (.list ds)
  | dic {a : Addr} {kvs : List (Key × V)} {es : List (Dt × Dt)} : H a = some (.dK kvs) → Kvs K c H kvs es → Vw K c H (.ref a) (.dict es)
theorem TvOk.vw {i : Cl} {t : Tv} {v : V} {d : Dt} (h : TvOk K c H i t v) (e : tvw t = some d) : Vw K c H v d := by
  cases t with
  | val d' => cases e; exact .im h
  | own o =>
    obtain ⟨a, rfl, h⟩ := h
    cases o with
    | lst ds => cases e; obtain ⟨_, vs, h1, h2⟩ := h; exact .lst h1 h2
    | dic ds => cases e; obtain ⟨_, vs, h1, h2⟩ := h; exact .dic h1 h2
    | pot _ _ _ => cases e
    | scr _ => cases e
    | grid _ => cases e
  | io o =>
    obtain ⟨a, rfl, h⟩ := h
    cases o with
    | lst ds => cases e; obtain ⟨_, vs, h1, h2⟩ := h; exact .lst h1 h2
    | dic ds => cases e; obtain ⟨_, vs, h1, h2⟩ := h; exact .dic h1 h2
    | pot _ _ _ => cases e
    | scr _ => cases e
    | grid _ => cases e
theorem Rel.vw {k : Nat} {r : R} {v : V} {d : Dt} (h : Rel B K c env τ σ H) (hr : ROk K c H env σ k r v) (e : vw env r = some d) : Vw K c H v d := by
  cases r with
  | tmp t => exact TvOk.vw hr e
  | bor i =>
    have h1 : σ[i]? = some (some v) := hr
    unfold VL.vw at e
    simp only at e
    split at e
    · rename_i t h2
      obtain ⟨v', h3, h4⟩ := h.sl i t h2
      rw [h1] at h3
      cases h3
      exact h4.vw e
    · cases e

/-! ### things that come to stand still -/
theorem Kp.mv {i : Cl} {j : Option Cl} (hi : i ≠ .bs) : Kp c H (c.mv i j) H where
  obj := fun a u h hc => ⟨h, Col.mv_ne fun e => by
    rw [e] at hc
    rcases hc with z | z
    · cases z
    · exact hi (Option.some.inj z)⟩
  tup := fun _ _ h => h
  frz := fun _ _ _ h => h
theorem KM.mvo {i j : Cl} {x : Option Cl} (h : j ≠ i) : KM j j c H (c.mv i x) H := fun b u hc hb => ⟨hb, by rw [Col.mv_ne (by rw [hc]; exact fun e => h (Option.some.inj e))]; exact hc⟩
theorem KM.mvs {i j : Cl} : KM i j c H (c.mv i (some j)) H := fun b u hc hb => ⟨hb, Col.mv_at hc⟩
theorem Gr.frz {i : Cl} (hi : i ≠ .bs) : ∀ {as : List Addr} {rs : List (List Dt)}, Gr K c H i as rs → Ims K (c.mv i none) H (as.map V.ref) (rs.map PyData.list)
  | _, _, .nil => .nil
  | _, _, .cons h1 h2 h3 h4 => .cons (.lst (Col.mv_at h1) h2 (h3.kp (.mv hi))) (h4.frz hi)
/-- owned data frozen -/
theorem TvOk.frz {i : Cl} {t : Tv} {v : V} {d : Dt} (hi : i ≠ .bs) (h : TvOk K c H i t v) (e : tvz t = some d) : Im K (c.mv i none) H v d := by
  cases t with
  | val d' => cases e; exact Im.kp (.mv hi) _ h
  | own o =>
    obtain ⟨a, rfl, h⟩ := h
    cases o with
    | lst ds => cases e; obtain ⟨hc, vs, h1, h2⟩ := h; exact .lst (Col.mv_at hc) h1 (h2.kp (.mv hi))
    | dic ds => cases e; obtain ⟨hc, vs, h1, h2⟩ := h; exact .dic (Col.mv_at hc) h1 (h2.kp (.mv hi))
    | pot _ _ _ => cases e
    | scr _ => cases e
    | grid rows => cases e; obtain ⟨hc, as, h1, _, _, h4⟩ := h; exact .lst (Col.mv_at hc) h1 (h4.frz hi)
  | io o => cases e
/-- the slot i comes to stand still -/
def fzE (env : En) (i : Nat) : Option (Dt × En) :=
  match env[i]? with
  | some (some t) => (tvz t).map fun d => (d, env.set i (some (.val d)))
  | _ => none
/-- a result comes to stand still -/
def fz (env : En) : R → Option (Dt × En)
  | .tmp t => (tvz t).map fun d => (d, env)
  | .bor i => fzE env i
theorem ROk.envset {k i : Nat} {r : R} {v : V} {t : Tv} (h : ROk K c H env σ k r v) : ROk K c H (env.set i (some t)) σ k r v := by
  cases r with
  | tmp _ => exact h
  | bor j => exact h
theorem Rel.fzSlot {i : Nat} {d : Dt} {v : V} (h : Rel B K c env τ σ H) (hv : σ[i]? = some (some v)) (e : fzE env i = some (d, env')) : Rel B K (c.mv (.sl i) none) env' τ σ H ∧ Im K (c.mv (.sl i) none) H v d := by
  unfold fzE at e
  cases he : env[i]? with
  | none => rw [he] at e; cases e
  | some x =>
    cases x with
    | none => rw [he] at e; cases e
    | some t =>
      rw [he] at e
      simp only [Option.map_eq_some_iff, Prod.mk.injEq] at e
      obtain ⟨d', e1, rfl, rfl⟩ := e
      obtain ⟨v', h1, h2⟩ := h.sl i t he
      rw [hv] at h1
      cases h1
      have im := h2.frz (by intro z; cases z) e1
      have hi : i < env.length := (List.getElem?_eq_some_iff.mp he).1
      refine ⟨⟨by rw [List.length_set]; exact h.len, fun j t' hj => ?_, fun k r w hk => ?_, fun b u hb n => ?_, h.bs, fun j o hj => ?_, fun P q ht => (h.tb P q ht).kp (.mv (by intro z; cases z))⟩, im⟩
      · by_cases ij : i = j
        · subst ij
          rw [List.getElem?_set_self hi] at hj
          cases hj
          exact ⟨v, hv, im⟩
        · rw [List.getElem?_set_ne ij] at hj
          obtain ⟨w, h3, h4⟩ := h.sl j t' hj
          exact ⟨w, h3, h4.mv (.mv (by intro z; cases z)) (.mvo (by intro z; cases z; exact ij rfl))⟩
      · exact ((h.tm k r w hk).kp (.mv (by intro z; cases z)) (.mvo (by intro z; cases z))).envset
      · obtain ⟨h3, e3⟩ := h.fr b u hb n
        refine ⟨h3, ?_⟩
        rw [Col.mv_ne]
        · exact e3
        · rw [e3]
          intro z
          rcases h.bs b u hb n with q | q <;> rw [z] at q <;> cases q
      · by_cases ij : i = j
        · subst ij
          rw [List.getElem?_set_self hi] at hj
          cases hj
        · rw [List.getElem?_set_ne ij] at hj
          exact h.io j o hj
/-- the last result comes to stand still; it stays as data -/
theorem Rel.fzTop {r : R} {v : V} {d : Dt} (h : Rel B K c env (τ ++ [(r, v)]) σ H) (e : fz env r = some (d, env')) : ∃ c', Rel B K c' env' (τ ++ [(.tmp (.val d), v)]) σ H := by
  have hr := h.top
  cases r with
  | bor i =>
    obtain ⟨h1, im⟩ := Rel.fzSlot h.pop hr e
    exact ⟨_, h1.push im⟩
  | tmp t =>
    unfold fz at e
    simp only [Option.map_eq_some_iff, Prod.mk.injEq] at e
    obtain ⟨d', e1, rfl, rfl⟩ := e
    refine ⟨c.mv (.tm τ.length) none, ?_⟩
    refine (h.pop.kp (.mv (by intro z; cases z)) fun j hj => ?_).push (TvOk.frz (by intro z; cases z) hr e1)
    refine .mvo ?_
    rcases hj with ⟨i, rfl, _⟩ | ⟨i, rfl, hi⟩
    · intro z; cases z
    · intro z; cases z; exact Nat.lt_irrefl _ hi
end
end VL


/-! VB: the monad of readings; judgements of expressions and arguments. -/
namespace VL
open PySem PySem.Spec L2
open PyProof.Rows hiding St

/-- an exception: its class's name; one int that it keeps, by its name -/
structure Ex where
  cls : Str
  fld : Option (Str × Int) := none
inductive Ev (α : Type) where
  | ok (a : α) (e : En)
  | er (x : Ex) (e : En)
  | bad
abbrev M (α : Type) := En → Ev α
namespace M
def ret {α : Type} (a : α) : M α := fun e => .ok a e
def bind {α β : Type} (m : M α) (f : α → M β) : M β := fun e =>
  match m e with
  | .ok a e' => f a e'
  | .er x e' => .er x e'
  | .bad => .bad
def of {α : Type} (o : Option α) : M α := fun e =>
  match o with
  | some a => .ok a e
  | none => .bad
end M
/-- what a run meets -/
def Ev.wp {α : Type} (r : Ev α) (Q : α → En → Prop) (E : Ex → En → Prop) : Prop :=
  match r with
  | .ok a e => Q a e
  | .er x e => E x e
  | .bad => False
theorem wp_bind {α β : Type} {m : M α} {f : α → M β} {e : En} {Q : β → En → Prop} {E : Ex → En → Prop} (h : ((m.bind f) e).wp Q E) : (m e).wp (fun a e' => (f a e').wp Q E) E := by
  unfold M.bind at h
  cases q : m e <;> rw [q] at h <;> exact h
theorem wp_bind' {α β : Type} {m : M α} {f : α → M β} {e : En} {Q : β → En → Prop} {E : Ex → En → Prop} (h : (m e).wp (fun a e' => (f a e').wp Q E) E) : ((m.bind f) e).wp Q E := by
  unfold M.bind
  cases q : m e <;> rw [q] at h <;> exact h
theorem wp_mono {α : Type} {r : Ev α} {Q Q' : α → En → Prop} {E E' : Ex → En → Prop} (h : r.wp Q E) (hQ : ∀ a e, Q a e → Q' a e) (hE : ∀ x e, E x e → E' x e) : r.wp Q' E' := by
  cases r with
  | ok a e => exact hQ _ _ h
  | er x e => exact hE _ _ h
  | bad => exact h
theorem wp_of {α : Type} {o : Option α} {e : En} {Q : α → En → Prop} {E : Ex → En → Prop} (h : ((M.of o) e).wp Q E) : ∃ a, o = some a ∧ Q a e := by
  cases o with
  | none => exact h.elim
  | some a => exact ⟨a, rfl, h⟩
def look (r : R) : M Dt := fun e => M.of (vw e r) e
theorem wp_look {r : R} {e : En} {Q : Dt → En → Prop} {E : Ex → En → Prop} (h : ((look r) e).wp Q E) : ∃ d, vw e r = some d ∧ Q d e := wp_of h
/-- a result frozen -/
def frz (r : R) : M Dt := fun e =>
  match fz e r with
  | some (d, e') => .ok d e'
  | none => .bad
theorem wp_frz {r : R} {e : En} {Q : Dt → En → Prop} {E : Ex → En → Prop} (h : ((frz r) e).wp Q E) : ∃ d e', fz e r = some (d, e') ∧ Q d e' := by
  unfold frz at h
  cases q : fz e r with
  | none => rw [q] at h; exact h.elim
  | some p => rw [q] at h; exact ⟨p.1, p.2, rfl, h⟩

/-! ### exceptions -/
def ExOk (mg : Str → Option Value) (H : Hp) (x : Ex) (cls : Value) (d : Option Addr) : Prop :=
  mg x.cls = some cls ∧ match x.fld with
    | none => d = none
    | some (f, i) => ∃ a, d = some a ∧ H a = some (.xd [(f, .int i)])
section
variable (B : Bs) (K : PySem.W.Frag) (mg : Str → Option Value) (W : WX)
def ErrW (σ : St) (τ : List (R × V)) : Ex → En → Prop := fun x e => ∀ cls d c' H', Rel B K c' e τ σ H' → ExOk mg H' x cls d → W cls d σ H'
def tV (m : M R) : TE := fun σ H Q => ∃ c e τ, Rel B K c e τ σ H ∧ (m e).wp (fun r e' => ∀ v c' H', Rel B K c' e' (τ ++ [(r, v)]) σ H' → Q v H') (ErrW B K mg W σ τ)
def tA (m : M (List R)) : TA := fun σ H Q => ∃ c e τ, Rel B K c e τ σ H ∧ (m e).wp (fun rs e' => ∀ vs c' H', vs.length = rs.length → Rel B K c' e' (τ ++ rs.zip vs) σ H' → Q vs H') (ErrW B K mg W σ τ)
/-- a test -/
def tT (m : M Bool) : TT := fun σ H Q => ∃ c e τ, Rel B K c e τ σ H ∧ (m e).wp (fun b e' => ∀ c' H', Rel B K c' e' τ σ H' → Q b H') (ErrW B K mg W σ τ)
end
theorem ErrW.more {B : Bs} {K : PySem.W.Frag} {mg : Str → Option Value} {W : WX} {σ : St} {τ υ : List (R × V)} {x : Ex} {e : En} (h : ErrW B K mg W σ τ x e) : ErrW B K mg W σ (τ ++ υ) x e :=
  fun cls d c' H' r q => h cls d c' H' r.pops q
theorem PE.imp {X : Cx} {e : Expr} {t t' : TE} (h : PE X e t) (w : ∀ σ H Q, t' σ H Q → t σ H Q) : PE X e t' := ⟨fun pins s σ H Q I q => h.run pins s σ H Q I (w _ _ _ q)⟩
theorem PA.imp {X : Cx} {e : List Expr} {t t' : TA} (h : PA X e t) (w : ∀ σ H Q, t' σ H Q → t σ H Q) : PA X e t' := ⟨fun pos pins s σ H Q I q => h.run pos pins s σ H Q I (w _ _ _ q)⟩
theorem PT.imp {X : Cx} {e : Expr} {t t' : TT} (h : PT X e t) (w : ∀ σ H Q, t' σ H Q → t σ H Q) : PT X e t' := ⟨fun pins s σ H Q I q => h.run pins s σ H Q I (w _ _ _ q)⟩
theorem PW.imp {X : Cx} {e : Expr} {t t' : TT} (h : PW X e t) (w : ∀ σ H Q, t' σ H Q → t σ H Q) : PW X e t' := ⟨fun wh pins s σ H Q I q => h.run wh pins s σ H Q I (w _ _ _ q)⟩
section
variable (X : Cx) (B : Bs) (W : WX)
def VE (e : Expr) (m : M R) : Prop := PE X e (tV B X.K X.mg W m)
def VA (es : List Expr) (m : M (List R)) : Prop := PA X es (tA B X.K X.mg W m)
def VT (e : Expr) (m : M Bool) : Prop := PT X e (tT B X.K X.mg W m)
def VW (e : Expr) (m : M Bool) : Prop := PW X e (tT B X.K X.mg W m)
end
section
variable {X : Cx} {B : Bs} {W : WX}

/-! ### names, constants -/
def mVar (i : Nat) : M R := fun e =>
  match e[i]? with
  | some (some (.val d)) => .ok (.tmp (.val d)) e
  | some (some (.own _)) => .ok (.bor i) e
  | some (some (.io _)) => .ok (.bor i) e
  | _ => .bad
theorem ve_var (i : Nat) {x : Str} {pos : Pos} (hN : X.N[i]? = some x := by rfl) (hv : Vis X.env.scope x := by first | exact Or.inl rfl | exact Or.inr (Or.inl rfl) | exact Or.inr (Or.inr rfl)) (hd : (x == ("__debug__" : Str)) = false := by decide)
    (hcd : (x == ("__classdict__" : Str)) = false := by decide) : VE X B W (.Name x pos) (mVar i) := by
  refine PE.imp (pe_var hN hv hd hcd) fun σ H Q h => ?_
  obtain ⟨c, e, τ, r, h⟩ := h
  unfold mVar at h
  split at h
  · rename_i d hd
    obtain ⟨v, h1, h2⟩ := r.sl i _ hd
    exact ⟨v, h1, h v c H (r.push h2)⟩
  · rename_i d hd
    obtain ⟨v, h1, h2⟩ := r.sl i _ hd
    exact ⟨v, h1, h v c H (r.push h1)⟩
  · rename_i d hd
    obtain ⟨v, h1, h2⟩ := r.sl i _ hd
    exact ⟨v, h1, h v c H (r.push h1)⟩
  · exact h.elim
def mDat (d : Dt) : M R := M.ret (.tmp (.val d))
theorem tC_ok {v : V} {d : Dt} {K : PySem.W.Frag} {mg : Str → Option Value} (hi : ∀ c H, Im K c H v d) (σ : St) (H : Hp) (Q : VK) (h : tV B K mg W (mDat d) σ H Q) : tC v σ H Q := by
  obtain ⟨c, e, τ, r, h⟩ := h
  exact h v c H (r.push (hi c H))
theorem ve_int {i : Int} {j : Nat} {pos : Pos} : VE X B W (.Constant (.int i) j pos) (mDat (.int i)) := PE.imp pe_int (tC_ok fun _ _ => .int i)
theorem ve_bl {b : Bool} {j : Nat} {pos : Pos} : VE X B W (.Constant (.bool b) j pos) (mDat (.bool b)) := PE.imp pe_bl (tC_ok fun _ _ => .bl b)
theorem ve_non {j : Nat} {pos : Pos} : VE X B W (.Constant .none j pos) (mDat .none) := PE.imp pe_non (tC_ok fun _ _ => .non)
theorem ve_str {x : Str} {j : Nat} {pos : Pos} : VE X B W (.Constant (.str x) j pos) (mDat (.str x)) := PE.imp pe_str (tC_ok fun _ _ => .str x)
theorem ve_glob {x : Str} {v : V} {u : Value} {d : Dt} {pos : Pos} (hg : Gl X x) (hm : X.mg x = some u) (r : RelV v u) (hi : ∀ c H, Im X.K c H v d) (hd : (x == ("__debug__" : Str)) = false := by decide) : VE X B W (.Name x pos) (mDat d) :=
  PE.imp (pe_glob hg hm r hd) (tC_ok hi)

/-! ### argument lists -/
def mCons (m : M R) (ms : M (List R)) : M (List R) := m.bind fun r => ms.bind fun rs => M.ret (r :: rs)
theorem va_nil : VA X B W [] (M.ret []) := PA.imp pa_nil fun σ H Q h => by
  obtain ⟨c, e, τ, r, h⟩ := h
  exact h [] c H rfl (by rw [List.zip_nil_left, List.append_nil]; exact r)
theorem va_cons {e : Expr} {es : List Expr} {m : M R} {ms : M (List R)} (ha : VE X B W e m) (hr : VA X B W es ms) (hs : starEach (e :: es) X.env = (false, eval e X.env) :: starEach es X.env := by rfl) : VA X B W (e :: es) (mCons m ms) := by
  refine PA.imp (pa_cons ha hr hs) fun σ H Q h => ?_
  obtain ⟨c, e, τ, r, h⟩ := h
  refine ⟨c, e, τ, r, wp_mono (wp_bind h) (fun r1 e1 h1 v c1 H1 R1 => ?_) fun _ _ q => q⟩
  refine ⟨c1, e1, _, R1, wp_mono (wp_bind h1) (fun rs e2 h2 vs c2 H2 hl R2 => ?_) fun x e2 q => q.more⟩
  refine h2 (v :: vs) c2 H2 (by rw [List.length_cons, List.length_cons, hl]) ?_
  rw [List.zip_cons_cons]
  rw [List.append_assoc] at R2
  exact R2

/-! ### views of arguments -/
inductive Vws (K : PySem.W.Frag) (c : Col) (H : Hp) : List V → List Dt → Prop
  | nil : Vws K c H [] []
  | cons {v : V} {vs : List V} {d : Dt} {ds : List Dt} : Vw K c H v d → Vws K c H vs ds → Vws K c H (v :: vs) (d :: ds)
def vws (e : En) : List R → Option (List Dt)
  | [] => some []
  | r :: rs => match vw e r, vws e rs with
    | some d, some ds => some (d :: ds)
    | _, _ => none
def looks (rs : List R) : M (List Dt) := fun e => M.of (vws e rs) e
theorem wp_looks {rs : List R} {e : En} {Q : List Dt → En → Prop} {E : Ex → En → Prop} (h : ((looks rs) e).wp Q E) : ∃ d, vws e rs = some d ∧ Q d e := wp_of h
theorem Rel.vws {K : PySem.W.Frag} {c : Col} {e : En} {σ : St} {H : Hp} : ∀ {rs : List R} {vs : List V} {τ : List (R × V)} {ds : List Dt}, vs.length = rs.length → Rel B K c e (τ ++ rs.zip vs) σ H → vws e rs = some ds → Vws K c H vs ds
  | [], [], _, ds, _, _, e => by cases e; exact .nil
  | [], _ :: _, _, _, h, _, _ => nomatch h
  | _ :: _, [], _, _, h, _, _ => nomatch h
  | r :: rs, v :: vs, τ, ds, hl, R, e => by
    rw [List.zip_cons_cons] at R
    unfold VL.vws at e
    split at e
    · rename_i d ds' h1 h2
      cases e
      refine .cons (R.vw (k := τ.length) (R.tm τ.length r v ?_) h1) (Rel.vws (τ := τ ++ [(r, v)]) (Nat.succ.inj hl) (by rw [List.append_assoc]; exact R) h2)
      rw [List.getElem?_append_right (Nat.le_refl _), Nat.sub_self]
      rfl
    · cases e

/-! ### operations by values -/
def mOp2 (f : Dt → Dt → Option Tv) (ma mb : M R) : M R := ma.bind fun r1 => mb.bind fun r2 => (look r1).bind fun d1 => (look r2).bind fun d2 => (M.of (f d1 d2)).bind fun t => M.ret (.tmp t)
/-- what a reading by values serves -/
def Op2 (K : PySem.W.Frag) (r : R2) (f : Dt → Dt → Option Tv) : Prop :=
  ∀ (c : Col) (H : Hp) (x y : V) (d1 d2 : Dt) (t : Tv) (Q : VK), Vw K c H x d1 → Vw K c H y d2 → f d1 d2 = some t → (∀ v H', Nw K c H t v H' → Q v H') → r x y H Q
theorem Rel.new2 {K : PySem.W.Frag} {c : Col} {e : En} {τ υ : List (R × V)} {σ : St} {H H' : Hp} {t : Tv} {v : V} (h : Rel B K c e (τ ++ υ) σ H) (n : Nw K c H t v H') : ∃ c', Rel B K c' e (τ ++ [(.tmp t, v)]) σ H' := h.pops.new n
theorem op2_ok {K : PySem.W.Frag} {mg : Str → Option Value} {r : R2} {f : Dt → Dt → Option Tv} {ma mb : M R} (o : Op2 K r f) (σ : St) (H : Hp) (Q : VK) (h : tV B K mg W (mOp2 f ma mb) σ H Q) :
    tOp r (tV B K mg W ma) (tV B K mg W mb) σ H Q := by
  obtain ⟨c, e, τ, R, h⟩ := h
  refine ⟨c, e, τ, R, wp_mono (wp_bind h) (fun r1 e1 h1 v c1 H1 R1 => ?_) fun _ _ q => q⟩
  refine ⟨c1, e1, _, R1, wp_mono (wp_bind h1) (fun r2 e2 h2 u c2 H2 R2 => ?_) fun x e2 q => q.more⟩
  obtain ⟨d1, v1, h2⟩ := wp_look (wp_bind h2)
  obtain ⟨d2, v2, h2⟩ := wp_look (wp_bind h2)
  obtain ⟨t, ht, h2⟩ := wp_of (wp_bind h2)
  refine o c2 H2 v u d1 d2 t Q (R2.pop.vw R2.pop.top v1) (R2.vw R2.top v2) ht fun v' H' n => ?_
  obtain ⟨c3, R3⟩ := R2.pop.new2 n
  exact h2 v' c3 H' R3
theorem ve_op {op : Operator} {r : R2} {f : Dt → Dt → Option Tv} {a b : Expr} {ma mb : M R} {pos : Pos} (ho : OpR X (binaryOp op) r) (o : Op2 X.K r f) (ha : VE X B W a ma) (hb : VE X B W b mb) : VE X B W (.BinOp a op b pos) (mOp2 f ma mb) :=
  PE.imp (pe_op ho ha hb) (op2_ok o)
theorem ve_cmp {op : CmpOp} {r : R2} {f : Dt → Dt → Option Tv} {a b : Expr} {ma mb : M R} {pos : Pos} (ho : OpR X (compareOp op) r) (o : Op2 X.K r f) (ha : VE X B W a ma) (hb : VE X B W b mb) (hm : behindInMarks op b = false) : VE X B W (.Compare a [op] [b] pos) (mOp2 f ma mb) :=
  PE.imp (pe_cmpR ho ha hb hm) (op2_ok o)
theorem ve_ix {r : R2} {f : Dt → Dt → Option Tv} {a b : Expr} {ma mb : M R} {pos : Pos} (ho : IxR X r) (o : Op2 X.K r f) (ha : VE X B W a ma) (hb : VE X B W b mb) (hs : PlainIx b := by exact fun _ _ => rfl) : VE X B W (.Subscript a b pos) (mOp2 f ma mb) :=
  PE.imp (pe_ix ho ha hb hs) (op2_ok o)
def mOp1 (f : Dt → Option Tv) (ma : M R) : M R := ma.bind fun r1 => (look r1).bind fun d1 => (M.of (f d1)).bind fun t => M.ret (.tmp t)
def Op1 (K : PySem.W.Frag) (r : V → Hp → VK → Prop) (f : Dt → Option Tv) : Prop :=
  ∀ (c : Col) (H : Hp) (x : V) (d1 : Dt) (t : Tv) (Q : VK), Vw K c H x d1 → f d1 = some t → (∀ v H', Nw K c H t v H' → Q v H') → r x H Q
theorem ve_un {op : UnaryOp} {r : V → Hp → VK → Prop} {f : Dt → Option Tv} {a : Expr} {ma : M R} {pos : Pos} (ho : UnR X (unaryOp op) r) (o : Op1 X.K r f) (ha : VE X B W a ma) : VE X B W (.UnaryOp op a pos) (mOp1 f ma) := by
  refine PE.imp (pe_un ho ha) fun σ H Q h => ?_
  obtain ⟨c, e, τ, R, h⟩ := h
  refine ⟨c, e, τ, R, wp_mono (wp_bind h) (fun r1 e1 h1 v c1 H1 R1 => ?_) fun _ _ q => q⟩
  obtain ⟨d1, v1, h2⟩ := wp_look (wp_bind h1)
  obtain ⟨t, ht, h2⟩ := wp_of (wp_bind h2)
  refine o c1 H1 v d1 t Q (R1.vw R1.top v1) ht fun v' H' n => ?_
  obtain ⟨c3, R3⟩ := R1.new2 n
  exact h2 v' c3 H' R3
/-- calls of what is built in -/
def mCallB (f : List Dt → Option Tv) (ms : M (List R)) : M R := ms.bind fun rs => (looks rs).bind fun ds => (M.of (f ds)).bind fun t => M.ret (.tmp t)
def OpN (K : PySem.W.Frag) (r : List V → Hp → VK → Prop) (f : List Dt → Option Tv) : Prop :=
  ∀ (c : Col) (H : Hp) (xs : List V) (ds : List Dt) (t : Tv) (Q : VK), Vws K c H xs ds → f ds = some t → (∀ v H', Nw K c H t v H' → Q v H') → r xs H Q
theorem callB_ok {K : PySem.W.Frag} {mg : Str → Option Value} {r : List V → Hp → VK → Prop} {f : List Dt → Option Tv} {ms : M (List R)} (o : OpN K r f) (σ : St) (H : Hp) (Q : VK) (h : tV B K mg W (mCallB f ms) σ H Q) :
    tCB r (tA B K mg W ms) σ H Q := by
  obtain ⟨c, e, τ, R, h⟩ := h
  refine ⟨c, e, τ, R, wp_mono (wp_bind h) (fun rs e1 h1 vs c1 H1 hl R1 => ?_) fun _ _ q => q⟩
  obtain ⟨ds, v1, h2⟩ := wp_looks (wp_bind h1)
  obtain ⟨t, ht, h2⟩ := wp_of (wp_bind h2)
  refine o c1 H1 vs ds t Q (R1.vws hl v1) ht fun v' H' n => ?_
  obtain ⟨c3, R3⟩ := R1.new2 n
  exact h2 v' c3 H' R3
theorem ve_callB {id : String} {r : List V → Hp → VK → Prop} {f : List Dt → Option Tv} {x : Str} {a : Expr} {es : List Expr} {ms : M (List R)} {p pos : Pos} (hc : CallR X (.builtin id) r) (o : OpN X.K r f) (hg : Gl X x) (hm : X.mg x = none) (hv : bootBuiltins x = some (.builtin id)) (ha : VA X B W (a :: es) ms)
    (hn : x ≠ "__name__" := by decide) (hdb : (x == ("__debug__" : Str)) = false := by decide) (he : starEach (a :: es) X.env = (false, eval a X.env) :: starEach es X.env := by rfl) (hpl : (backTo pos (starEach es X.env)).any (·.1) = false := by rfl) :
    VE X B W (.Call (.Name x p) (a :: es) [] pos) (mCallB f ms) := PE.imp (pe_callB hc hg hm hv ha hn hdb he hpl) (callB_ok o)
theorem ve_callTy {T : String} {r : List V → Hp → VK → Prop} {f : List Dt → Option Tv} {x : Str} {a : Expr} {es : List Expr} {ms : M (List R)} {p pos : Pos} (hc : CallR X (.type T) r) (o : OpN X.K r f) (hg : Gl X x) (hm : X.mg x = none) (hv : bootBuiltins x = some (.type T)) (ha : VA X B W (a :: es) ms)
    (hn : x ≠ "__name__" := by decide) (hdb : (x == ("__debug__" : Str)) = false := by decide) (he : starEach (a :: es) X.env = (false, eval a X.env) :: starEach es X.env := by rfl) (hpl : (backTo pos (starEach es X.env)).any (·.1) = false := by rfl) :
    VE X B W (.Call (.Name x p) (a :: es) [] pos) (mCallB f ms) := PE.imp (pe_callTy hc hg hm hv ha hn hdb he hpl) (callB_ok o)

/-! ### displays -/
def frzs : List R → M (List Dt)
  | [] => M.ret []
  | r :: rs => (frz r).bind fun d => (frzs rs).bind fun ds => M.ret (d :: ds)
theorem Rel.frzMid {K : PySem.W.Frag} {σ : St} {H : Hp} {c : Col} {e e1 : En} {τ ρ : List (R × V)} {r : R} {v : V} {d : Dt} (R : Rel B K c e (τ ++ (r, v) :: ρ) σ H) (h1 : fz e r = some (d, e1)) : ∃ c1, Rel B K c1 e1 (τ ++ (VL.R.tmp (.val d), v) :: ρ) σ H ∧ Kp c H c1 H := by
  have hr : ROk K c H e σ τ.length r v := R.tm τ.length r v (by rw [List.getElem?_append_right (Nat.le_refl _), Nat.sub_self]; rfl)
  have key : ∀ {x y : List (VL.R × V)} {k : Nat} {q : VL.R × V}, k ≠ τ.length → (τ ++ (VL.R.tmp (.val d), v) :: ρ)[k]? = some q → (τ ++ (r, v) :: ρ)[k]? = some q := fun {x y k q} hk e' => by
    by_cases hk2 : k < τ.length
    · rw [List.getElem?_append_left hk2] at e' ⊢
      exact e'
    · obtain ⟨j, hj⟩ : ∃ j, k - τ.length = j + 1 := ⟨k - τ.length - 1, by omega⟩
      rw [List.getElem?_append_right (by omega), hj, List.getElem?_cons_succ] at e' ⊢
      exact e'
  cases r with
  | bor i =>
    obtain ⟨R1, im⟩ := Rel.fzSlot R hr h1
    refine ⟨_, ⟨R1.len, R1.sl, fun k r' v' e' => ?_, R1.fr, R1.bs, R1.io, R1.tb⟩, .mv (by intro z; cases z)⟩
    by_cases hk : k = τ.length
    · subst hk
      rw [List.getElem?_append_right (Nat.le_refl _), Nat.sub_self] at e'
      cases e'
      exact im
    · exact R1.tm k r' v' (key (x := []) (y := []) hk e')
  | tmp t =>
    unfold fz at h1
    simp only [Option.map_eq_some_iff, Prod.mk.injEq] at h1
    obtain ⟨d', e1', rfl, rfl⟩ := h1
    refine ⟨c.mv (.tm τ.length) none, ⟨R.len, fun i t' ht => ?_, fun k r' v' e' => ?_, fun b u hb n => ?_, R.bs, R.io, fun P q ht => (R.tb P q ht).kp (.mv (by intro z; cases z))⟩, .mv (by intro z; cases z)⟩
    · obtain ⟨w, q1, q2⟩ := R.sl i t' ht
      exact ⟨w, q1, q2.mv (.mv (by intro z; cases z)) (.mvo (by intro z; cases z))⟩
    · by_cases hk : k = τ.length
      · subst hk
        rw [List.getElem?_append_right (Nat.le_refl _), Nat.sub_self] at e'
        cases e'
        exact TvOk.frz (by intro z; cases z) hr e1'
      · exact ROk.kp (R.tm k r' v' (key (x := []) (y := []) hk e')) (.mv (by intro z; cases z)) (.mvo (by intro z; cases z; exact hk rfl))
    · obtain ⟨h3, e3⟩ := R.fr b u hb n
      refine ⟨h3, ?_⟩
      rw [Col.mv_ne]
      · exact e3
      · rw [e3]
        intro z
        rcases R.bs b u hb n with q | q <;> rw [z] at q <;> cases q
theorem Rel.frzsOk {K : PySem.W.Frag} {σ : St} {H : Hp} : ∀ {rs : List R} {vs : List V} {c : Col} {e : En} {τ : List (R × V)} {Q : List Dt → En → Prop} {E : Ex → En → Prop}, vs.length = rs.length → Rel B K c e (τ ++ rs.zip vs) σ H → (frzs rs e).wp Q E →
    ∃ ds c' e', Rel B K c' e' τ σ H ∧ Ims K c' H vs ds ∧ Q ds e' ∧ Kp c H c' H
  | [], [], c, e, τ, Q, E, _, R, h => ⟨[], c, e, by simpa using R, .nil, h, .refl⟩
  | [], _ :: _, _, _, _, _, _, h, _, _ => nomatch h
  | _ :: _, [], _, _, _, _, _, h, _, _ => nomatch h
  | r :: rs, v :: vs, c, e, τ, Q, E, hl, R, h => by
    rw [List.zip_cons_cons] at R
    obtain ⟨d, e1, h1, h2⟩ := wp_frz (wp_bind h)
    obtain ⟨c1, R1, k1⟩ := R.frzMid h1
    obtain ⟨ds, c2, e2, R2, is, q, k2⟩ := Rel.frzsOk (τ := τ ++ [(VL.R.tmp (.val d), v)]) (Nat.succ.inj hl) (by rw [List.append_assoc]; exact R1) (wp_bind h2)
    have hd : Im K c2 H v d := R2.top
    exact ⟨d :: ds, c2, e2, R2.pop, .cons hd is, q, k1.trans k2⟩
def small (n : Nat) : Bool := decide (n ≤ 16777216)
theorem small_of {n : Nat} (h : small n = true) : n ≤ sizeLine := by
  rw [sizeLine_eq]
  exact of_decide_eq_true h
def mTup (ms : M (List R)) : M R := ms.bind fun rs => (frzs rs).bind fun ds => if small ds.length then M.ret (.tmp (.val (.tuple ds))) else fun _ => .bad
def mLst (ms : M (List R)) : M R := ms.bind fun rs => (frzs rs).bind fun ds => if small ds.length then M.ret (.tmp (.own (.lst ds))) else fun _ => .bad
theorem ve_tup {es : List Expr} {ms : M (List R)} {k : Nat} {pos : Pos} (h : VA X B W es ms) : VE X B W (.Tuple es k pos) (mTup ms) := by
  refine PE.imp (pe_tup h) fun σ H Q h => ?_
  obtain ⟨c, e, τ, R, h⟩ := h
  refine ⟨c, e, τ, R, wp_mono (wp_bind h) (fun rs e1 h1 vs c1 H1 hl R1 => ?_) fun _ _ q => q⟩
  obtain ⟨ds, c2, e2, R2, is, q, _⟩ := R1.frzsOk hl (wp_bind h1)
  split at q
  · rename_i hz
    refine ⟨by rw [is.length]; exact small_of hz, fun p hp => ?_⟩
    obtain ⟨c3, R3⟩ := R2.new (t := .val (.tuple ds)) (v := .ref p) (.inr ⟨p, vs, ds, rfl, rfl, hp, rfl, is⟩)
    exact q (.ref p) c3 _ R3
  · exact q.elim
theorem ve_lst {es : List Expr} {ms : M (List R)} {pos : Pos} (h : VA X B W es ms) : VE X B W (.List es pos) (mLst ms) := by
  refine PE.imp (pe_lst h) fun σ H Q h => ?_
  obtain ⟨c, e, τ, R, h⟩ := h
  refine ⟨c, e, τ, R, wp_mono (wp_bind h) (fun rs e1 h1 vs c1 H1 hl R1 => ?_) fun _ _ q => q⟩
  obtain ⟨ds, c2, e2, R2, is, q, _⟩ := R1.frzsOk hl (wp_bind h1)
  split at q
  · rename_i hz
    refine ⟨by rw [is.length]; exact small_of hz, fun p hp => ?_⟩
    obtain ⟨c3, R3⟩ := R2.new (t := .own (.lst ds)) (v := .ref p) ⟨p, vs, rfl, hp, rfl, is⟩
    exact q (.ref p) c3 _ R3
  · exact q.elim

/-! ### tests, and, or, not, if .. else -/
def mTest (m : M R) : M Bool := m.bind fun r => (look r).bind fun d => M.of (match d with | .bool b => some b | _ => none)
theorem Vw.bool {K : PySem.W.Frag} {c : Col} {H : Hp} {v : V} {b : Bool} (h : Vw K c H v (.bool b)) : v = .bl b := by
  cases h with
  | im h => cases h; rfl
theorem Vw.int {K : PySem.W.Frag} {c : Col} {H : Hp} {v : V} {i : Int} (h : Vw K c H v (.int i)) : v = .int i := by
  cases h with
  | im h => cases h; rfl
theorem Vw.str {K : PySem.W.Frag} {c : Col} {H : Hp} {v : V} {i : Str} (h : Vw K c H v (.str i)) : v = .str i := by
  cases h with
  | im h => cases h; rfl
theorem Vw.none {K : PySem.W.Frag} {c : Col} {H : Hp} {v : V} (h : Vw K c H v .none) : v = .non := by
  cases h with
  | im h => cases h; rfl
theorem Vw.tuple {K : PySem.W.Frag} {c : Col} {H : Hp} {v : V} {ds : List Dt} (h : Vw K c H v (.tuple ds)) : ∃ a xs, v = .ref a ∧ SqT K H a xs ∧ Ims K c H xs ds := by
  cases h with
  | im h => cases h with | tup h1 h2 => exact ⟨_, _, rfl, h1, h2⟩
theorem Vw.list {K : PySem.W.Frag} {c : Col} {H : Hp} {v : V} {ds : List Dt} (h : Vw K c H v (.list ds)) : ∃ a xs, v = .ref a ∧ H a = some (.lst xs) ∧ Ims K c H xs ds := by
  cases h with
  | im h => cases h with | lst h1 h2 h3 => exact ⟨_, _, rfl, h2, h3⟩
  | lst h1 h2 => exact ⟨_, _, rfl, h1, h2⟩
theorem Vw.dict {K : PySem.W.Frag} {c : Col} {H : Hp} {v : V} {es : List (Dt × Dt)} (h : Vw K c H v (.dict es)) : ∃ a xs, v = .ref a ∧ H a = some (.dK xs) ∧ Kvs K c H xs es := by
  cases h with
  | im h => cases h with | dic h1 h2 h3 => exact ⟨_, _, rfl, h2, h3⟩
  | dic h1 h2 => exact ⟨_, _, rfl, h1, h2⟩
theorem mTest_ok {K : PySem.W.Frag} {mg : Str → Option Value} {m : M R} {σ : St} {H : Hp} {Q : Bool → Hp → Prop} (h : tT B K mg W (mTest m) σ H Q) : tV B K mg W m σ H fun x H1 => ∃ b, x = .bl b ∧ Q b H1 := by
  obtain ⟨c, e, τ, R, h⟩ := h
  refine ⟨c, e, τ, R, wp_mono (wp_bind h) (fun r1 e1 h1 v c1 H1 R1 => ?_) fun _ _ q => q⟩
  obtain ⟨d, v1, h2⟩ := wp_look (wp_bind h1)
  obtain ⟨b, hb, h2⟩ := wp_of h2
  cases d with
  | bool b' =>
    cases hb
    exact ⟨b, (R1.vw R1.top v1).bool, h2 c1 H1 R1.pop⟩
  | _ => cases hb
/-- a value that is True or False, as a test -/
theorem vt_val {e : Expr} {m : M R} (h : VE X B W e m) (he : ∀ whole, isTrue e X.env whole = (do let v ← whole; standAt e.pos; holding [v] (truthy v)) := by intro _; rfl) : VT X B W e (mTest m) :=
  PT.imp (pt_val h he) fun σ H Q h => mTest_ok h
theorem vt_cmp {op : CmpOp} {r : R2} {f : Dt → Dt → Option Tv} {a b : Expr} {ma mb : M R} {pos : Pos} (ho : OpR X (compareOp op) r) (o : Op2 X.K r f) (ha : VE X B W a ma) (hb : VE X B W b mb) (hm : behindInMarks op b = false) : VT X B W (.Compare a [op] [b] pos) (mTest (mOp2 f ma mb)) := by
  refine PT.imp (pt_cmpR ho ha hb hm) fun σ H Q h => ?_
  exact op2_ok o σ H _ (mTest_ok h)
def mNot (m : M Bool) : M Bool := m.bind fun b => M.ret (!b)
theorem vt_not {a : Expr} {m : M Bool} {pos : Pos} (h : VT X B W a m) : VT X B W (.UnaryOp .Not a pos) (mNot m) := by
  refine PT.imp (pt_not h) fun σ H Q h => ?_
  obtain ⟨c, e, τ, R, h⟩ := h
  exact ⟨c, e, τ, R, wp_mono (wp_bind h) (fun b e1 h1 c1 H1 R1 => h1 c1 H1 R1) fun _ _ q => q⟩
def mAnd (m n : M Bool) : M Bool := m.bind fun b => if b = true then n else M.ret false
def mOr (m n : M Bool) : M Bool := m.bind fun b => if b = true then M.ret true else n
theorem vw_and1 {a : Expr} {m : M Bool} {pos : Pos} (h : VT X B W a m) : VW X B W (.BoolOp .And [a] pos) m := pw_and1 h
theorem vw_or1 {a : Expr} {m : M Bool} {pos : Pos} (h : VT X B W a m) : VW X B W (.BoolOp .Or [a] pos) m := pw_or1 h
theorem vw_and {a b : Expr} {rest : List Expr} {m n : M Bool} {pos : Pos} (ha : VT X B W a m) (hb : VW X B W (.BoolOp .And (b :: rest) pos) n) : VW X B W (.BoolOp .And (a :: b :: rest) pos) (mAnd m n) := by
  refine PW.imp (pw_and ha hb) fun σ H Q h => ?_
  obtain ⟨c, e, τ, R, h⟩ := h
  refine ⟨c, e, τ, R, wp_mono (wp_bind h) (fun b e1 h1 c1 H1 R1 => ?_) fun _ _ q => q⟩
  cases b with
  | true => exact ⟨c1, e1, τ, R1, h1⟩
  | false => exact h1 c1 H1 R1
theorem vw_or {a b : Expr} {rest : List Expr} {m n : M Bool} {pos : Pos} (ha : VT X B W a m) (hb : VW X B W (.BoolOp .Or (b :: rest) pos) n) : VW X B W (.BoolOp .Or (a :: b :: rest) pos) (mOr m n) := by
  refine PW.imp (pw_or ha hb) fun σ H Q h => ?_
  obtain ⟨c, e, τ, R, h⟩ := h
  refine ⟨c, e, τ, R, wp_mono (wp_bind h) (fun b e1 h1 c1 H1 R1 => ?_) fun _ _ q => q⟩
  cases b with
  | true => exact h1 c1 H1 R1
  | false => exact ⟨c1, e1, τ, R1, h1⟩
theorem VW.vt {e : Expr} {m : M Bool} (h : VW X B W e m) : VT X B W e m := PW.pt h
/-- .. as values -/
def mBool (m : M Bool) : M R := m.bind fun b => M.ret (.tmp (.val (.bool b)))
theorem mBool_ok {K : PySem.W.Frag} {mg : Str → Option Value} {m : M Bool} {σ : St} {H : Hp} {Q : VK} (h : tV B K mg W (mBool m) σ H Q) : tT B K mg W m σ H fun b H1 => Q (.bl b) H1 := by
  obtain ⟨c, e, τ, R, h⟩ := h
  exact ⟨c, e, τ, R, wp_mono (wp_bind h) (fun b e1 h1 c1 H1 R1 => h1 (.bl b) c1 H1 (R1.push (r := .tmp (.val (.bool b))) (Im.bl b))) fun _ _ q => q⟩
def mIf {α : Type} (t : M Bool) (m n : M α) : M α := t.bind fun b => if b = true then m else n
theorem ve_ifExp {t a b : Expr} {mt : M Bool} {ma mb : M R} {pos : Pos} (ht : VT X B W t mt) (ha : VE X B W a ma) (hb : VE X B W b mb) : VE X B W (.IfExp t a b pos) (mIf mt ma mb) := by
  refine PE.imp (pe_ifExp ht ha hb) fun σ H Q h => ?_
  obtain ⟨c, e, τ, R, h⟩ := h
  refine ⟨c, e, τ, R, wp_mono (wp_bind h) (fun b e1 h1 c1 H1 R1 => ?_) fun _ _ q => q⟩
  cases b with
  | true => exact ⟨c1, e1, τ, R1, h1⟩
  | false => exact ⟨c1, e1, τ, R1, h1⟩
/-- a and b, a or b as values; all True or False -/
def mAndV (m n : M R) : M R := (mTest m).bind fun b => if b = true then n else mDat (.bool false)
def mOrV (m n : M R) : M R := (mTest m).bind fun b => if b = true then mDat (.bool true) else n
theorem ve_one {op : BoolOp} {a : Expr} {m : M R} {pos : Pos} (h : VE X B W a m) : VE X B W (.BoolOp op [a] pos) m := pe_one h
theorem ve_and {a b : Expr} {rest : List Expr} {m n : M R} {pos : Pos} (ha : VE X B W a m) (hb : VE X B W (.BoolOp .And (b :: rest) pos) n) : VE X B W (.BoolOp .And (a :: b :: rest) pos) (mAndV m n) := by
  refine PE.imp (pe_and ha hb) fun σ H Q h => ?_
  obtain ⟨c, e, τ, R, h⟩ := h
  refine mTest_ok (Q := fun b H1 => if b = true then tV B X.K X.mg W n σ H1 Q else Q (.bl false) H1) ⟨c, e, τ, R, wp_mono (wp_bind h) (fun b e1 h1 c1 H1 R1 => ?_) fun _ _ q => q⟩
  cases b with
  | true => exact ⟨c1, e1, τ, R1, h1⟩
  | false => exact h1 _ c1 H1 (R1.push (r := .tmp (.val (.bool false))) (Im.bl false))
theorem ve_or {a b : Expr} {rest : List Expr} {m n : M R} {pos : Pos} (ha : VE X B W a m) (hb : VE X B W (.BoolOp .Or (b :: rest) pos) n) : VE X B W (.BoolOp .Or (a :: b :: rest) pos) (mOrV m n) := by
  refine PE.imp (pe_or ha hb) fun σ H Q h => ?_
  obtain ⟨c, e, τ, R, h⟩ := h
  refine mTest_ok (Q := fun b H1 => if b = true then Q (.bl true) H1 else tV B X.K X.mg W n σ H1 Q) ⟨c, e, τ, R, wp_mono (wp_bind h) (fun b e1 h1 c1 H1 R1 => ?_) fun _ _ q => q⟩
  cases b with
  | true => exact h1 _ c1 H1 (R1.push (r := .tmp (.val (.bool true))) (Im.bl true))
  | false => exact ⟨c1, e1, τ, R1, h1⟩
def mNotV (m : M R) : M R := (mTest m).bind fun b => mDat (.bool (!b))
theorem ve_not {a : Expr} {m : M R} {pos : Pos} (ha : VE X B W a m) : VE X B W (.UnaryOp .Not a pos) (mNotV m) := by
  refine PE.imp (pe_not ha) fun σ H Q h => ?_
  obtain ⟨c, e, τ, R, h⟩ := h
  exact mTest_ok (Q := fun b H1 => Q (.bl (!b)) H1) ⟨c, e, τ, R, wp_mono (wp_bind h) (fun b e1 h1 c1 H1 R1 => h1 _ c1 H1 (R1.push (r := .tmp (.val (.bool (!b)))) (Im.bl _))) fun _ _ q => q⟩
/-- a op1 b op2 c -/
def asB (t : Option Tv) : Option Bool := match t with
  | some (.val (.bool b)) => some b
  | _ => none
def mChain (f g : Dt → Dt → Option Tv) (ma mb mc : M R) : M R := ma.bind fun r1 => mb.bind fun r2 => (look r1).bind fun d1 => (look r2).bind fun d2 => (M.of (asB (f d1 d2))).bind fun k =>
  if k = true then mc.bind fun r3 => (look r3).bind fun d3 => (look r2).bind fun d2 => (M.of (g d2 d3)).bind fun t => M.ret (.tmp t) else mDat (.bool false)
theorem ve_chain {op op' : CmpOp} {r r' : R2} {f g : Dt → Dt → Option Tv} {a b d : Expr} {ma mb mc : M R} {pos : Pos} (ho : OpR X (compareOp op) r) (ho' : OpR X (compareOp op') r') (o : Op2 X.K r f) (o' : Op2 X.K r' g) (ha : VE X B W a ma) (hb : VE X B W b mb) (hd : VE X B W d mc)
    (hm : lastMarks [op, op'] [b, d] = false := by with_unfolding_all rfl) : VE X B W (.Compare a [op, op'] [b, d] pos) (mChain f g ma mb mc) := by
  refine PE.imp (pe_chain ho ho' ha hb hd hm) fun σ H Q h => ?_
  obtain ⟨c, e, τ, R, h⟩ := h
  refine ⟨c, e, τ, R, wp_mono (wp_bind h) (fun r1 e1 h1 v c1 H1 R1 => ?_) fun _ _ q => q⟩
  refine ⟨c1, e1, _, R1, wp_mono (wp_bind h1) (fun r2 e2 h2 u c2 H2 R2 => ?_) fun x e2 q => q.more⟩
  obtain ⟨d1, v1, h2⟩ := wp_look (wp_bind h2)
  obtain ⟨d2, v2, h2⟩ := wp_look (wp_bind h2)
  obtain ⟨k, hk, h2⟩ := wp_of (wp_bind h2)
  unfold asB at hk
  split at hk
  · rename_i k' hf
    cases hk
    refine o c2 H2 v u d1 d2 _ _ (R2.pop.vw R2.pop.top v1) (R2.vw R2.top v2) hf fun v' H' n => ?_
    rcases n with ⟨rfl, n⟩ | ⟨_, _, _, _, z, _⟩
    · cases n
      refine ⟨k, rfl, ?_⟩
      cases k with
      | true =>
        refine ⟨c2, e2, _, R2, wp_mono (wp_bind h2) (fun r3 e3 h3 y c3 H3 R3 => ?_) fun x e2 q => by rw [List.append_assoc]; exact q.more⟩
        obtain ⟨d3, v3, h4⟩ := wp_look (wp_bind h3)
        obtain ⟨d2', v2', h4⟩ := wp_look (wp_bind h4)
        obtain ⟨t, ht, h4⟩ := wp_of (wp_bind h4)
        refine o' c3 H3 u y d2' d3 t Q (R3.pop.vw R3.pop.top v2') (R3.vw R3.top v3) ht fun v' H' n => ?_
        obtain ⟨c4, R4⟩ := R3.pop.pop.new2 n
        exact h4 v' c4 H' R4
      | false =>
        exact h2 _ c2 H' (R2.pop.pop.push (r := .tmp (.val (.bool false))) (Im.bl false))
    · cases z
  · cases hk
end
end VL


/-! VC: statements, loops. -/
namespace VL
open PySem PySem.Spec L2
open PyProof.Rows hiding St

inductive Fl where
  | nx (e : En) | rt (r : R) (e : En) | bk (e : En) | ct (e : En) | er (x : Ex) (e : En) | bad
abbrev S := En → Fl
structure Po where
  nx : En → Prop
  rt : R → En → Prop
  bk : En → Prop
  ct : En → Prop
  er : Ex → En → Prop
def Fl.wp (f : Fl) (P : Po) : Prop :=
  match f with
  | .nx e => P.nx e
  | .rt r e => P.rt r e
  | .bk e => P.bk e
  | .ct e => P.ct e
  | .er x e => P.er x e
  | .bad => False
structure Po.Le (P P' : Po) : Prop where
  nx : ∀ e, P.nx e → P'.nx e
  rt : ∀ r e, P.rt r e → P'.rt r e
  bk : ∀ e, P.bk e → P'.bk e
  ct : ∀ e, P.ct e → P'.ct e
  er : ∀ x e, P.er x e → P'.er x e
theorem Fl.mono {f : Fl} {P P' : Po} (h : f.wp P) (l : P.Le P') : f.wp P' := by
  cases f with
  | nx e => exact l.nx e h
  | rt r e => exact l.rt r e h
  | bk e => exact l.bk e h
  | ct e => exact l.ct e h
  | er x e => exact l.er x e h
  | bad => exact h
namespace S
def skip : S := fun e => .nx e
def seq (a b : S) : S := fun e =>
  match a e with
  | .nx e' => b e'
  | f => f
/-- an expression, then what follows -/
def run {α : Type} (m : M α) (k : α → S) : S := fun e =>
  match m e with
  | .ok a e' => k a e'
  | .er x e' => .er x e'
  | .bad => .bad
end S
theorem wp_seq {a b : S} {e : En} {P : Po} (h : (S.seq a b e).wp P) : (a e).wp { P with nx := fun e' => (b e').wp P } := by
  unfold S.seq at h
  cases q : a e <;> rw [q] at h <;> exact h
theorem wp_seq' {a b : S} {e : En} {P : Po} (h : (a e).wp { P with nx := fun e' => (b e').wp P }) : (S.seq a b e).wp P := by
  unfold S.seq
  cases q : a e <;> rw [q] at h <;> exact h
theorem wp_run {α : Type} {m : M α} {k : α → S} {e : En} {P : Po} (h : (S.run m k e).wp P) : (m e).wp (fun a e' => (k a e').wp P) P.er := by
  unfold S.run at h
  cases q : m e <;> rw [q] at h <;> exact h
theorem wp_run' {α : Type} {m : M α} {k : α → S} {e : En} {P : Po} (h : (m e).wp (fun a e' => (k a e').wp P) P.er) : (S.run m k e).wp P := by
  unfold S.run
  cases q : m e <;> rw [q] at h <;> exact h

/-- what statements leave pending: no borrowed thing -/
def NoB (τ : List (R × V)) : Prop := ∀ p ∈ τ, ∀ i, p.1 ≠ .bor i
theorem NoB.nil : NoB [] := fun _ h => nomatch h
section
variable (B : Bs) (K : PySem.W.Frag) (mg : Str → Option Value) (W : WX)
def PoOf (τ : List (R × V)) (D : Ends) : Po where
  nx := fun e => ∀ σ c H, Rel B K c e τ σ H → D.nx σ H
  rt := fun r e => ∀ v σ c H, Rel B K c e (τ ++ [(r, v)]) σ H → D.rt v H
  bk := fun e => ∀ σ c H, Rel B K c e τ σ H → D.bk σ H
  ct := fun e => ∀ σ c H, Rel B K c e τ σ H → D.ct σ H
  er := fun x e => ∀ σ, ErrW B K mg W σ τ x e
def tS (m : S) : TS := fun D σ H => ∃ c e τ, Rel B K c e τ σ H ∧ NoB τ ∧ (m e).wp (PoOf B K mg W τ D)
end
theorem PS.imp {X : Cx} {s : Stmt} {t t' : TS} (h : PS X s t) (w : ∀ D σ H, t' D σ H → t D σ H) : PS X s t' := ⟨fun pins s σ H D I q => h.run pins s σ H D I (w _ _ _ q)⟩
theorem PSs.imp {X : Cx} {s : List Stmt} {t t' : TS} (h : PSs X s t) (w : ∀ D σ H, t' D σ H → t D σ H) : PSs X s t' := ⟨fun pins s σ H D I q => h.run pins s σ H D I (w _ _ _ q)⟩
section
variable (X : Cx) (B : Bs) (W : WX)
def VS (s : Stmt) (m : S) : Prop := PS X s (tS B X.K X.mg W m)
def VSs (s : List Stmt) (m : S) : Prop := PSs X s (tS B X.K X.mg W m)
end
section
variable {X : Cx} {B : Bs} {W : WX}

theorem vss_nil : VSs X B W [] S.skip := PSs.imp pss_nil fun D σ H h => by
  obtain ⟨c, e, τ, r, _, h⟩ := h
  exact h σ c H r
theorem vss_cons {s : Stmt} {ss : List Stmt} {m n : S} (h : VS X B W s m) (h2 : VSs X B W ss n) : VSs X B W (s :: ss) (S.seq m n) := by
  refine PSs.imp (pss_cons h h2) fun D σ H h => ?_
  obtain ⟨c, e, τ, r, nb, h⟩ := h
  exact ⟨c, e, τ, r, nb, Fl.mono (wp_seq h) ⟨fun e1 h1 σ1 c1 H1 r1 => ⟨c1, e1, τ, r1, nb, h1⟩, fun _ _ q => q, fun _ q => q, fun _ q => q, fun _ _ q => q⟩⟩
theorem vss_one {s : Stmt} {m : S} (h : VS X B W s m) : VSs X B W [s] m := pss_one h
theorem vs_pass {pos : Pos} : VS X B W (.Pass pos) S.skip := PS.imp ps_pass fun D σ H h => by
  obtain ⟨c, e, τ, r, _, h⟩ := h
  exact h σ c H r
def sBreak : S := fun e => .bk e
def sCont : S := fun e => .ct e
theorem vs_break {pos : Pos} : VS X B W (.Break pos) sBreak := PS.imp ps_break fun D σ H h => by
  obtain ⟨c, e, τ, r, _, h⟩ := h
  exact h σ c H r
theorem vs_continue {pos : Pos} : VS X B W (.Continue pos) sCont := PS.imp ps_continue fun D σ H h => by
  obtain ⟨c, e, τ, r, _, h⟩ := h
  exact h σ c H r
def sExpr (m : M R) : S := S.run m fun _ e => .nx e
theorem vs_expr {a : Expr} {m : M R} {pos : Pos} (h : VE X B W a m) (hs : swapsWith a none pos.line X.env = pure false := by rfl) : VS X B W (.Expr a pos) (sExpr m) := by
  refine PS.imp (ps_expr h hs) fun D σ H h => ?_
  obtain ⟨c, e, τ, r, _, h⟩ := h
  exact ⟨c, e, τ, r, wp_mono (wp_run h) (fun _ e1 q v c1 H1 R1 => q σ c1 H1 R1.pop) fun _ _ q => q σ⟩
def sRet (m : M R) : S := S.run m fun r e => .rt r e
theorem vs_ret {a : Expr} {m : M R} {pos : Pos} (h : VE X B W a m) : VS X B W (.Return (some a) pos) (sRet m) := by
  refine PS.imp (ps_ret h) fun D σ H h => ?_
  obtain ⟨c, e, τ, r, _, h⟩ := h
  exact ⟨c, e, τ, r, wp_mono (wp_run h) (fun r1 e1 q v c1 H1 R1 => q v σ c1 H1 R1) fun _ _ q => q σ⟩
def sRetN : S := fun e => .rt (.tmp (.val .none)) e
theorem vs_retN {pos : Pos} : VS X B W (.Return none pos) sRetN := PS.imp ps_retN fun D σ H h => by
  obtain ⟨c, e, τ, r, _, h⟩ := h
  exact h .non σ c H (r.push (r := .tmp (.val .none)) (Im.non))
def sIf (t : M Bool) (a b : S) : S := S.run t fun k => if k = true then a else b
theorem vs_if {t : Expr} {a b : List Stmt} {mt : M Bool} {ma mb : S} {pos : Pos} (ht : VT X B W t mt) (ha : VSs X B W a ma) (hb : VSs X B W b mb) : VS X B W (.If t a b pos) (sIf mt ma mb) := by
  refine PS.imp (ps_if ht ha hb) fun D σ H h => ?_
  obtain ⟨c, e, τ, r, nb, h⟩ := h
  refine ⟨c, e, τ, r, wp_mono (wp_run h) (fun k e1 q c1 H1 R1 => ?_) fun _ _ q => q σ⟩
  cases k with
  | true => exact ⟨c1, e1, τ, R1, nb, q⟩
  | false => exact ⟨c1, e1, τ, R1, nb, q⟩

/-! ### stores -/
def sto (i : Nat) (r : R) (e : En) : Option En :=
  match r with
  | .tmp (.io _) => none
  | .tmp t => if i < e.length then some (e.set i (some t)) else none
  | .bor j => match fzE e j with
    | some (d, e') => if i < e'.length then some (e'.set i (some (.val d))) else none
    | none => none
theorem Rel.setVal {K : PySem.W.Frag} {c : Col} {e : En} {τ : List (R × V)} {σ : St} {H : Hp} {i : Nat} {v : V} {d : Dt} (h : Rel B K c e τ σ H) (nb : NoB τ) (hi : i < e.length) (im : Im K c H v d) : Rel B K c (e.set i (some (.val d))) τ (σ.set i (some v)) H := by
  refine ⟨by rw [List.length_set, List.length_set]; exact h.len, fun j t hj => ?_, fun k r w hk => ?_, h.fr, h.bs, fun j o hj => ?_, h.tb⟩
  · by_cases ij : i = j
    · subst ij
      rw [List.getElem?_set_self hi] at hj
      cases hj
      exact ⟨v, List.getElem?_set_self (by rw [← h.len]; exact hi), im⟩
    · rw [List.getElem?_set_ne ij] at hj
      obtain ⟨w, h3, h4⟩ := h.sl j t hj
      exact ⟨w, by rw [List.getElem?_set_ne ij]; exact h3, h4⟩
  · have q := h.tm k r w hk
    cases r with
    | tmp t => exact q
    | bor j => exact absurd rfl (nb _ (List.mem_of_getElem? hk) j)
  · by_cases ij : i = j
    · subst ij
      rw [List.getElem?_set_self hi] at hj
      cases hj
    · rw [List.getElem?_set_ne ij] at hj ⊢
      exact h.io j o hj
theorem Rel.store {K : PySem.W.Frag} {c : Col} {e e' : En} {τ : List (R × V)} {σ : St} {H : Hp} {i : Nat} {r : R} {v : V} (h : Rel B K c e (τ ++ [(r, v)]) σ H) (nb : NoB τ) (hs : sto i r e = some e') : ∃ c', Rel B K c' e' τ (σ.set i (some v)) H := by
  have hr := h.top
  cases r with
  | bor j =>
    simp only [sto] at hs
    cases hf : fzE e j with
    | none => rw [hf] at hs; cases hs
    | some p =>
      obtain ⟨d, e1⟩ := p
      rw [hf] at hs
      simp only at hs
      split at hs
      · rename_i hi
        cases hs
        obtain ⟨R1, im⟩ := Rel.fzSlot h.pop hr hf
        exact ⟨_, R1.setVal nb hi im⟩
      · cases hs
  | tmp t =>
    have hs' : (∀ o, t ≠ .io o) ∧ i < e.length ∧ e.set i (some t) = e' := by
      unfold sto at hs
      split at hs
      · cases hs
      · rename_i t2 hno heq
        cases heq
        split at hs
        · rename_i hlt
          cases hs
          exact ⟨fun o z => hno o z, hlt, rfl⟩
        · cases hs
      · rename_i heq
        cases heq
    obtain ⟨hno, hi, rfl⟩ := hs'
    refine ⟨c.mv (.tm τ.length) (some (.sl i)), ?_⟩
    have kp : Kp c H (c.mv (.tm τ.length) (some (.sl i))) H := .mv (by intro z; cases z)
    refine ⟨by rw [List.length_set, List.length_set]; exact h.len, fun j t' hj => ?_, fun k r w hk => ?_, fun b u hb n => ?_, h.bs, fun j o hj => ?_, fun P q ht => (h.tb P q ht).kp kp⟩
    · by_cases ij : i = j
      · subst ij
        rw [List.getElem?_set_self hi] at hj
        cases hj
        exact ⟨v, List.getElem?_set_self (by rw [← h.len]; exact hi), TvOk.mv hr kp .mvs⟩
      · rw [List.getElem?_set_ne ij] at hj
        obtain ⟨w, h3, h4⟩ := h.sl j t' hj
        exact ⟨w, by rw [List.getElem?_set_ne ij]; exact h3, h4.mv kp (.mvo (by intro z; cases z))⟩
    · have q := h.pop.tm k r w hk
      cases r with
      | tmp t =>
        refine TvOk.mv q kp (.mvo ?_)
        intro z
        cases z
        exact Nat.lt_irrefl _ (List.getElem?_eq_some_iff.mp hk).1
      | bor j => exact absurd rfl (nb _ (List.mem_of_getElem? hk) j)
    · obtain ⟨h3, e3⟩ := h.fr b u hb n
      refine ⟨h3, ?_⟩
      rw [Col.mv_ne]
      · exact e3
      · rw [e3]
        intro z
        rcases h.bs b u hb n with q | q <;> rw [z] at q <;> cases q
    · by_cases ij : i = j
      · subst ij
        rw [List.getElem?_set_self hi] at hj
        cases hj
        exact absurd rfl (hno o)
      · rw [List.getElem?_set_ne ij] at hj ⊢
        exact h.io j o hj
def sSet (i : Nat) (m : M R) : S := S.run m fun r e =>
  match sto i r e with
  | some e' => .nx e'
  | none => .bad
theorem vs_set {i : Nat} {x : Str} {a : Expr} {m : M R} {pos pos' : Pos} (hN : X.N.Nodup) (hi : X.N[i]? = some x) (hx : Loc X.env.scope x) (h : VE X B W a m) (hs : swapsWith a (some (.Name x pos')) pos.line X.env = pure false := by rfl) (hf : X.fn x = true ∨ X.env.scope.names.lookup x = some .local := by first | exact .inl rfl | exact .inr rfl | assumption) :
    VS X B W (.Assign [.Name x pos'] a pos) (sSet i m) := by
  refine PS.imp (ps_set hN hi hx h hs hf) fun D σ H h => ?_
  obtain ⟨c, e, τ, r, nb, h⟩ := h
  refine ⟨c, e, τ, r, wp_mono (wp_run h) (fun r1 e1 q v c1 H1 R1 => ?_) fun _ _ q => q σ⟩
  cases hsto : sto i r1 e1 with
  | none => rw [hsto] at q; exact q.elim
  | some e2 =>
    rw [hsto] at q
    obtain ⟨c2, R2⟩ := R1.store nb hsto
    exact q _ c2 H1 R2

/-! ### targets of data -/
abbrev Tg := Dt → En → Option En
/-- only these slots were stored -/
def Eqx (sl : List Nat) (σ σ' : St) : Prop := σ'.length = σ.length ∧ ∀ i, i ∉ sl → σ'[i]? = σ[i]?
theorem Eqx.refl {sl : List Nat} {σ : St} : Eqx sl σ σ := ⟨rfl, fun _ _ => rfl⟩
theorem Eqx.trans {sl sl' : List Nat} {σ σ1 σ2 : St} (a : Eqx sl σ σ1) (b : Eqx sl' σ1 σ2) : Eqx (sl ++ sl') σ σ2 :=
  ⟨b.1.trans a.1, fun i hi => (b.2 i fun z => hi (List.mem_append_right _ z)).trans (a.2 i fun z => hi (List.mem_append_left _ z))⟩
def tG (B : Bs) (K : PySem.W.Frag) (g : Tg) (sl : List Nat) : TG := fun v σ H Q => ∃ c e τ d e', Rel B K c e τ σ H ∧ NoB τ ∧ Im K c H v d ∧ g d e = some e' ∧ ∀ σ' c' H', Rel B K c' e' τ σ' H' → Kp c H c' H' → Eqx sl σ σ' → Q σ' H'
def tGs (B : Bs) (K : PySem.W.Frag) (g : List Dt → En → Option En) (sl : List Nat) : TGs := fun vs σ H Q => ∃ c e τ ds e', Rel B K c e τ σ H ∧ NoB τ ∧ Ims K c H vs ds ∧ g ds e = some e' ∧ ∀ σ' c' H', Rel B K c' e' τ σ' H' → Kp c H c' H' → Eqx sl σ σ' → Q σ' H'
theorem PG.imp {X : Cx} {e : Expr} {t t' : TG} (h : PG X e t) (w : ∀ v σ H Q, t' v σ H Q → t v σ H Q) : PG X e t' := ⟨fun pins s σ H v u Q I r q => h.run pins s σ H v u Q I r (w _ _ _ _ q)⟩
theorem PGs.imp {X : Cx} {e : List Expr} {t t' : TGs} (h : PGs X e t) (w : ∀ v σ H Q, t' v σ H Q → t v σ H Q) : PGs X e t' := ⟨fun pins s σ H v u Q I r q => h.run pins s σ H v u Q I r (w _ _ _ _ q)⟩
def VG (X : Cx) (B : Bs) (e : Expr) (g : Tg) (sl : List Nat) : Prop := PG X e (tG B X.K g sl)
def VGs (X : Cx) (B : Bs) (e : List Expr) (g : List Dt → En → Option En) (sl : List Nat) : Prop := PGs X e (tGs B X.K g sl)
def gN (i : Nat) : Tg := fun d e => if i < e.length then some (e.set i (some (.val d))) else none
theorem vg_name {i : Nat} {x : Str} {pos : Pos} (hN : X.N.Nodup) (hi : X.N[i]? = some x) (hx : Loc X.env.scope x) (hf : X.fn x = true ∨ X.env.scope.names.lookup x = some .local := by first | exact .inl rfl | exact .inr rfl | assumption) : VG X B (.Name x pos) (gN i) [i] := by
  refine PG.imp (pg_name hN hi hx hf) fun v σ H Q h => ?_
  obtain ⟨c, e, τ, d, e', R, nb, im, hg, q⟩ := h
  unfold gN at hg
  split at hg
  · rename_i hl
    cases hg
    exact q _ c H (R.setVal nb hl im) .refl ⟨List.length_set, fun j hj => List.getElem?_set_ne fun z => hj (by rw [z]; exact List.mem_cons_self)⟩
  · cases hg
def gNilD : List Dt → En → Option En := fun ds e => match ds with
  | [] => some e
  | _ => none
def gConsD (g : Tg) (gs : List Dt → En → Option En) : List Dt → En → Option En := fun ds e => match ds with
  | d :: ds => (g d e).bind (gs ds)
  | _ => none
theorem vgs_nil : VGs X B [] gNilD [] := by
  refine PGs.imp pgs_nil fun vs σ H Q h => ?_
  obtain ⟨c, e, τ, ds, e', R, nb, is, hg, q⟩ := h
  cases is with
  | nil => cases hg; exact ⟨rfl, q σ c H R .refl .refl⟩
  | cons _ _ => cases hg
theorem vgs_cons {a : Expr} {as : List Expr} {g : Tg} {gs : List Dt → En → Option En} {sl sl' : List Nat} (h1 : VG X B a g sl) (h2 : VGs X B as gs sl') (hs : (assignEach (a :: as) X.env).map (·.2) = assign a X.env :: (assignEach as X.env).map (·.2) := by rfl) : VGs X B (a :: as) (gConsD g gs) (sl ++ sl') := by
  refine PGs.imp (pgs_cons h1 h2 hs) fun vs σ H Q h => ?_
  obtain ⟨c, e, τ, ds, e', R, nb, is, hg, q⟩ := h
  cases is with
  | nil => cases hg
  | cons i1 is =>
    unfold gConsD at hg
    simp only [Option.bind_eq_some_iff] at hg
    obtain ⟨e1, hg1, hg2⟩ := hg
    exact ⟨_, _, rfl, c, e, τ, _, e1, R, nb, i1, hg1, fun σ' c' H' R' k x => ⟨c', e1, τ, _, e', R', nb, is.kp k, hg2, fun σ2 c2 H2 R2 k2 x2 => q σ2 c2 H2 R2 (k.trans k2) (x.trans x2)⟩⟩
def gT (n : Nat) (gs : List Dt → En → Option En) : Tg := fun d e => match d with
  | .tuple ds => if ds.length = n then gs ds e else none
  | _ => none
theorem vg_tup {es : List Expr} {k n : Nat} {gs : List Dt → En → Option En} {pos : Pos} {sl : List Nat} (hc : X.calm = true) (h : VGs X B es gs sl) (hn : (assignEach es X.env).length = n := by rfl) (hst : (assignEach es X.env).findIdx? (·.1) = none := by rfl) : VG X B (.Tuple es k pos) (gT n gs) sl := by
  refine PG.imp (pg_tup hc h hn hst) fun v σ H Q h => ?_
  obtain ⟨c, e, τ, d, e', R, nb, im, hg, q⟩ := h
  unfold gT at hg
  cases im with
  | tup hq is =>
    simp only at hg
    split at hg
    · rename_i hl
      exact ⟨_, _, rfl, hq, by rw [is.length]; exact hl, c, e, τ, _, e', R, nb, is, hg, q⟩
    · cases hg
  | _ => cases hg
/-- a, b = e -/
def sUnp (g : Tg) (m : M R) : S := S.run (m.bind frz) fun d e =>
  match g d e with
  | some e' => .nx e'
  | none => .bad
theorem vs_unp {tg a : Expr} {g : Tg} {m : M R} {pos : Pos} {sl : List Nat} (h : VE X B W a m) (hg : VG X B tg g sl) (hs : swapsWithSole [tg] a pos.line X.env = pure false := by rfl) (hw : swappedStores [tg] a X.env = pure none := by rfl)
    (h1 : (assignEach [tg] X.env).map (·.2) = [assign tg X.env] := by rfl) : VS X B W (.Assign [tg] a pos) (sUnp g m) := by
  refine PS.imp (ps_asg h hg hs hw h1) fun D σ H h => ?_
  obtain ⟨c, e, τ, r, nb, h⟩ := h
  refine ⟨c, e, τ, r, wp_mono (wp_bind (wp_run h)) (fun r1 e1 q v c1 H1 R1 => ?_) fun _ _ q => q σ⟩
  obtain ⟨d, e2, hf, q⟩ := wp_frz q
  obtain ⟨c2, R2⟩ := R1.fzTop hf
  cases hgd : g d e2 with
  | none => rw [hgd] at q; exact q.elim
  | some e3 =>
    rw [hgd] at q
    exact ⟨c2, e2, τ, d, e3, R2.pop, nb, R2.top, hgd, fun σ' c' H' R' _ _ => q σ' c' H' R'⟩

/-! ### while -/
def itW (t : M Bool) (b : S) : Nat → En → Option Fl
  | 0, _ => none
  | n + 1, e => match t e with
    | .ok true e1 => match b e1 with
      | .nx e2 => itW t b n e2
      | .ct e2 => itW t b n e2
      | .bk e2 => some (.nx e2)
      | f => some f
    | .ok false e1 => some (.nx e1)
    | .er x e1 => some (.er x e1)
    | .bad => some .bad
open Classical in
noncomputable def sWhile (t : M Bool) (b : S) : S := fun e =>
  if h : ∃ n f, itW t b n e = some f then h.choose_spec.choose else .bad
theorem sWhile_of {t : M Bool} {b : S} {e : En} {P : Po} (h : (sWhile t b e).wp P) : ∃ n f, itW t b n e = some f ∧ f.wp P := by
  unfold sWhile at h
  split at h
  · rename_i hx
    exact ⟨hx.choose, hx.choose_spec.choose, hx.choose_spec.choose_spec, h⟩
  · exact h.elim
theorem itW_more {t : M Bool} {b : S} {f : Fl} : ∀ {n : Nat} {e : En}, itW t b n e = some f → itW t b (n + 1) e = some f
  | 0, _, h => nomatch h
  | n + 1, e, h => by
    unfold itW at h ⊢
    cases q : t e with
    | bad => rw [q] at h; exact h
    | er x e1 => rw [q] at h; exact h
    | ok k e1 =>
      rw [q] at h
      cases k with
      | false => exact h
      | true =>
        simp only at h ⊢
        cases q2 : b e1 with
        | nx e2 => rw [q2] at h; exact itW_more h
        | ct e2 => rw [q2] at h; exact itW_more h
        | bk e2 => rw [q2] at h; exact h
        | rt r e2 => rw [q2] at h; exact h
        | er x e2 => rw [q2] at h; exact h
        | bad => rw [q2] at h; exact h
theorem itW_le {t : M Bool} {b : S} {f : Fl} {n : Nat} {e : En} (h : itW t b n e = some f) : ∀ m, n ≤ m → itW t b m e = some f := fun m hm => by
  induction hm with
  | refl => exact h
  | step _ ih => exact itW_more ih
theorem sWhile_eq {t : M Bool} {b : S} {n : Nat} {f : Fl} {e : En} (h : itW t b n e = some f) : sWhile t b e = f := by
  have hx : ∃ n f, itW t b n e = some f := ⟨n, f, h⟩
  have h1 := hx.choose_spec.choose_spec
  have h2 := (itW_le h1 (max n hx.choose) (Nat.le_max_right ..)).symm.trans (itW_le h (max n hx.choose) (Nat.le_max_left ..))
  unfold sWhile
  rw [dif_pos hx]
  exact Option.some.inj h2
theorem vs_while {t : Expr} {b : List Stmt} {mt : M Bool} {mb : S} {pos : Pos} (hp : PassesOwn (model X.prog X.w) X.A X.env X.xe) (ht : VT X B W t mt) (hb : VSs X B W b mb) : VS X B W (.While t b [] pos) (sWhile mt mb) := by
  refine PS.imp (ps_while hp ht hb) fun D σ H h => ?_
  obtain ⟨c, e, τ, r, nb, h⟩ := h
  obtain ⟨n, f, hn, hf⟩ := sWhile_of h
  refine ⟨fun m σ H => ∃ c e f, Rel B X.K c e τ σ H ∧ itW mt mb m e = some f ∧ f.wp (PoOf B X.K X.mg W τ D), ⟨n, c, e, f, r, hn, hf⟩, ?_⟩
  rintro m σ1 H1 ⟨c1, e1, f1, R1, hm, hf1⟩
  cases m with
  | zero => cases hm
  | succ m =>
    refine ⟨c1, e1, τ, R1, ?_⟩
    unfold itW at hm
    cases q : mt e1 with
    | bad => rw [q] at hm; cases hm; exact hf1.elim
    | er x e2 => rw [q] at hm; cases hm; exact hf1 σ1
    | ok k e2 =>
      rw [q] at hm
      cases k with
      | false => cases hm; exact fun c2 H2 R2 => hf1 σ1 c2 H2 R2
      | true =>
        simp only at hm
        intro c2 H2 R2
        rw [if_pos rfl]
        refine ⟨fun σ' H' => ∃ c e f, Rel B X.K c e τ σ' H' ∧ itW mt mb m e = some f ∧ f.wp (PoOf B X.K X.mg W τ D), fun σ' H' hN => ⟨m, Nat.lt_succ_self m, hN⟩, c2, e2, τ, R2, nb, ?_⟩
        cases q2 : mb e2 with
        | nx e3 => rw [q2] at hm; exact fun σ3 c3 H3 R3 => ⟨c3, e3, f1, R3, hm, hf1⟩
        | ct e3 => rw [q2] at hm; exact fun σ3 c3 H3 R3 => ⟨c3, e3, f1, R3, hm, hf1⟩
        | bk e3 => rw [q2] at hm; cases hm; exact hf1
        | rt r e3 => rw [q2] at hm; cases hm; exact hf1
        | er x e3 => rw [q2] at hm; cases hm; exact hf1
        | bad => rw [q2] at hm; cases hm; exact hf1.elim

/-! ### what is walked -/
/-- what is pending is data that stands still -/
def Tm (K : PySem.W.Frag) (υ : List (R × V)) (c : Col) (H : Hp) : Prop := ∀ v d, (R.tmp (.val d), v) ∈ υ → Im K c H v d
theorem Rel.tms {K : PySem.W.Frag} {c : Col} {e : En} {τ υ : List (R × V)} {σ : St} {H : Hp} (h : Rel B K c e (τ ++ υ) σ H) : Tm K υ c H := fun v d hm => by
  obtain ⟨k, hk⟩ := List.getElem?_of_mem hm
  exact h.tm (τ.length + k) _ v (by rw [List.getElem?_append_right (Nat.le_add_right _ _), Nat.add_sub_cancel_left]; exact hk)
structure Src (K : PySem.W.Frag) (J : It) (υ : List (R × V)) (ds : List Dt) : Prop where
  nb : NoB υ
  go : ∀ c H i, Tm K υ c H → i < ds.length → J.go i H
  stop : ∀ c H i, Tm K υ c H → ds.length ≤ i → J.stop i H
  yld : ∀ c H i x H', Tm K υ c H → J.yld i H x H' → ∀ d, ds[i]? = some d → Nw K c H (.val d) x H'
def tI (B : Bs) (K : PySem.W.Frag) (mg : Str → Option Value) (W : WX) (m : M (List Dt)) : TI := fun σ H R => ∃ c e τ, Rel B K c e τ σ H ∧ (m e).wp (fun ds e' => ∀ J υ c' H', Src K J υ ds → Rel B K c' e' (τ ++ υ) σ H' → R J H') (ErrW B K mg W σ τ)
theorem PI.imp {X : Cx} {tg e : Expr} {t t' : TI} (h : PI X tg e t) (w : ∀ σ H R, t' σ H R → t σ H R) : PI X tg e t' := ⟨fun pins s σ H R I q => h.run pins s σ H R I (w _ _ _ q)⟩
def VI (X : Cx) (B : Bs) (W : WX) (tg e : Expr) (m : M (List Dt)) : Prop := PI X tg e (tI B X.K X.mg W m)
theorem NoB.val {d : Dt} {v : V} : NoB [(R.tmp (.val d), v)] := fun p hp i z => by
  cases List.mem_singleton.mp hp
  cases z
theorem src_list {K : PySem.W.Frag} {a : Addr} {ds : List Dt} : Src K (Itl K a) [(.tmp (.val (.list ds)), .ref a)] ds where
  nb := NoB.val
  go := fun c H i h hi => by
    cases h _ _ List.mem_cons_self with
    | lst h0 h1 h2 => exact ⟨_, _, .inl (.inl h1), List.getElem?_eq_getElem (by rw [h2.length]; exact hi)⟩
  stop := fun c H i h hi => by
    cases h _ _ List.mem_cons_self with
    | lst h0 h1 h2 => exact ⟨_, .inl (.inl h1), by rw [h2.length]; exact hi⟩
  yld := fun c H i x H' h ⟨e, y⟩ d hd => by
    subst e
    cases h _ _ List.mem_cons_self with
    | lst h0 h1 h2 =>
      obtain ⟨v, hv, im⟩ := h2.get hd
      have e2 := (y _ (.inl (.inl h1))).symm.trans hv
      cases e2
      exact .inl ⟨rfl, im⟩
theorem src_tup {K : PySem.W.Frag} {a : Addr} {ds : List Dt} : Src K (Itt K a) [(.tmp (.val (.tuple ds)), .ref a)] ds where
  nb := NoB.val
  go := fun c H i h hi => by
    cases h _ _ List.mem_cons_self with
    | tup h1 h2 => exact ⟨_, _, h1, List.getElem?_eq_getElem (by rw [h2.length]; exact hi)⟩
  stop := fun c H i h hi => by
    cases h _ _ List.mem_cons_self with
    | tup h1 h2 => exact ⟨_, h1, by rw [h2.length]; exact hi⟩
  yld := fun c H i x H' h ⟨e, y⟩ d hd => by
    subst e
    cases h _ _ List.mem_cons_self with
    | tup h1 h2 =>
      obtain ⟨v, hv, im⟩ := h2.get hd
      have e2 := (y _ h1).symm.trans hv
      cases e2
      exact .inl ⟨rfl, im⟩
/-- for over a list or a tuple: it stands still from here on -/
def seqOf : Dt → Option (List Dt)
  | .list ds => some ds
  | .tuple ds => some ds
  | _ => none
def iSeq (m : M R) : M (List Dt) := m.bind fun r => (frz r).bind fun d => M.of (seqOf d)
/-- an iterator over what the expression gives, a list or a tuple -/
theorem pi_seq {l tg : Expr} {tl : TE} (hl : PE X l tl) : PI X tg l (fun σ H R => tl σ H fun x H1 => (∃ a, x = .ref a ∧ (∃ xs, SqL X.K H1 a xs) ∧ R (Itl X.K a) H1) ∨ (∃ a, x = .ref a ∧ (∃ xs, SqT X.K H1 a xs) ∧ R (Itt X.K a) H1)) := by
  constructor
  intro pins s σ H R I h
  refine thn (hl.run pins s σ H _ I h) fun v s1 ⟨x, H1, I1, r1, q1⟩ => ?_
  have fresh : ∀ b ∈ [s1.heap.objs.size], FpOk X pins H1 b := fun b hb => by
    cases List.mem_singleton.mp hb
    exact I1.fpOk (Nat.le_refl _) (I1.hok.fresh (Nat.le_refl _))
  rcases q1 with ⟨a, rfl, ⟨xs, hq⟩, q⟩ | ⟨a, rfl, ⟨xs, hq⟩, q⟩
  · cases r1
    obtain ⟨its, _, p, _⟩ := I1.list hq
    exact wpAny_pyIter_list p.isList ⟨s1.heap.objs.size, _, _, _, H1, rfl, I1.kept (t' := s1.toks) fun b o e => Heap.get?_push_of_some _ e, turn_list a _, ⟨_, Heap.get?_push_size _ rfl, rfl, rfl⟩, fresh, q⟩
  · cases r1
    obtain ⟨its, _, p, _⟩ := I1.tuple hq
    exact wpAny_pyIter_tuple (show s1.heap.IsTuple a its.toArray from p) ⟨s1.heap.objs.size, _, _, _, H1, rfl, I1.kept (t' := s1.toks) fun b o e => Heap.get?_push_of_some _ e, turn_tuple a _, ⟨_, Heap.get?_push_size _ rfl, rfl, rfl⟩, fresh, q⟩
theorem vi_seq {tg a : Expr} {m : M R} (h : VE X B W a m) : VI X B W tg a (iSeq m) := by
  refine PI.imp (pi_seq h) fun σ H Rr h => ?_
  obtain ⟨c, e, τ, r, h⟩ := h
  refine ⟨c, e, τ, r, wp_mono (wp_bind h) (fun r1 e1 q v c1 H1 R1 => ?_) fun _ _ q => q⟩
  obtain ⟨d, e2, hf, q⟩ := wp_frz (wp_bind q)
  obtain ⟨c2, R2⟩ := R1.fzTop hf
  obtain ⟨ds, hd, q⟩ := wp_of q
  have im : Im X.K c2 H1 v d := R2.top
  cases im with
  | lst hc h1 h2 => cases hd; exact .inl ⟨_, rfl, ⟨_, .inl (.inl h1)⟩, q _ _ c2 H1 src_list R2⟩
  | tup h1 h2 => cases hd; exact .inr ⟨_, rfl, ⟨_, h1⟩, q _ _ c2 H1 src_tup R2⟩
  | _ => cases hd
/-- lo, lo + 1, .. -/
def rgs (lo : Int) (n : Nat) : List Dt := (List.range n).map fun (i : Nat) => PyData.int (lo + i)
theorem rgs_length {lo : Int} {n : Nat} : (rgs lo n).length = n := by
  unfold rgs
  rw [List.length_map, List.length_range]
theorem src_rng {K : PySem.W.Frag} {lo : Int} {n : Nat} : Src K (Itr lo n) [] (rgs lo n) where
  nb := NoB.nil
  go := fun c H i _ hi => by rw [rgs_length] at hi; exact hi
  stop := fun c H i _ hi => by rw [rgs_length] at hi; exact hi
  yld := fun c H i x H' _ ⟨e, y⟩ d hd => by
    subst e y
    unfold rgs at hd
    rw [List.getElem?_map] at hd
    simp only [Option.map_eq_some_iff] at hd
    obtain ⟨j, hj, rfl⟩ := hd
    obtain ⟨hlt, e2⟩ := List.getElem?_eq_some_iff.mp hj
    rw [List.getElem_range] at e2
    subst e2
    exact .inl ⟨rfl, .int _⟩
def big62 (i : Int) : Bool := decide (-(2 ^ 62) ≤ i) && decide (i < 2 ^ 62)
theorem big62_of {i : Int} (h : big62 i = true) : -(2 ^ 62) ≤ i ∧ i < 2 ^ 62 := by
  unfold big62 at h
  rw [Bool.and_eq_true] at h
  exact ⟨of_decide_eq_true h.1, of_decide_eq_true h.2⟩
def rngOf1 : List Dt → Option (List Dt)
  | [.int j] => if big62 j = true then some (rgs 0 j.toNat) else none
  | _ => none
def rngOf2 : List Dt → Option (List Dt)
  | [.int i, .int j] => if big62 i = true ∧ big62 j = true then some (rgs i (j - i).toNat) else none
  | _ => none
def iRng1 (ms : M (List R)) : M (List Dt) := ms.bind fun rs => (looks rs).bind fun ds => M.of (rngOf1 ds)
def iRng2 (ms : M (List R)) : M (List Dt) := ms.bind fun rs => (looks rs).bind fun ds => M.of (rngOf2 ds)
theorem vi_range1 {tg a : Expr} {ms : M (List R)} {p pos : Pos} (hg : Gl X "range") (hm : X.mg "range" = none) (ha : VA X B W [a] ms) (hs : starEach [a] X.env = [(false, eval a X.env)] := by rfl) : VI X B W tg (.Call (.Name "range" p) [a] [] pos) (iRng1 ms) := by
  refine PI.imp (pi_range1 hg hm ha hs) fun σ H Rr h => ?_
  obtain ⟨c, e, τ, r, h⟩ := h
  refine ⟨c, e, τ, r, wp_mono (wp_bind h) (fun rs e1 h1 vs c1 H1 hl R1 => ?_) fun _ _ q => q⟩
  obtain ⟨ds, v1, h2⟩ := wp_looks (wp_bind h1)
  obtain ⟨is, ht, q⟩ := wp_of h2
  have vv := R1.vws hl v1
  unfold rngOf1 at ht
  split at ht
  · split at ht
    · rename_i hb
      cases ht
      cases vv with
      | cons w1 w2 =>
        cases w2
        cases w1.int
        exact ⟨_, rfl, (big62_of hb).1, (big62_of hb).2, q _ _ c1 H1 src_rng (by rw [List.append_nil]; exact R1.pops)⟩
    · cases ht
  · cases ht
theorem vi_range2 {tg a b : Expr} {ms : M (List R)} {p pos : Pos} (hg : Gl X "range") (hm : X.mg "range" = none) (ha : VA X B W [a, b] ms) (hs : starEach [a, b] X.env = [(false, eval a X.env), (false, eval b X.env)] := by rfl) (hs2 : starEach [b] X.env = [(false, eval b X.env)] := by rfl) : VI X B W tg (.Call (.Name "range" p) [a, b] [] pos) (iRng2 ms) := by
  refine PI.imp (pi_range2 hg hm ha hs hs2) fun σ H Rr h => ?_
  obtain ⟨c, e, τ, r, h⟩ := h
  refine ⟨c, e, τ, r, wp_mono (wp_bind h) (fun rs e1 h1 vs c1 H1 hl R1 => ?_) fun _ _ q => q⟩
  obtain ⟨ds, v1, h2⟩ := wp_looks (wp_bind h1)
  obtain ⟨is, ht, q⟩ := wp_of h2
  have vv := R1.vws hl v1
  unfold rngOf2 at ht
  split at ht
  · split at ht
    · rename_i hb
      cases ht
      cases vv with
      | cons w1 w2 =>
        cases w2 with
        | cons w2 w3 =>
          cases w3
          cases w1.int
          cases w2.int
          exact ⟨_, _, rfl, ⟨(big62_of hb.1).1, (big62_of hb.1).2, (big62_of hb.2).1, (big62_of hb.2).2⟩, q _ _ c1 H1 src_rng (by rw [List.append_nil]; exact R1.pops)⟩
    · cases ht
  · cases ht

/-! ### for -/
def itF (g : Tg) (b : S) : List Dt → S
  | [], e => .nx e
  | d :: ds, e => match g d e with
    | none => .bad
    | some e1 => match b e1 with
      | .nx e2 => itF g b ds e2
      | .ct e2 => itF g b ds e2
      | .bk e2 => .nx e2
      | f => f
def sFor (m : M (List Dt)) (g : Tg) (b : S) : S := S.run m fun ds => itF g b ds
/-- something pending in between is forgotten -/
theorem Rel.slide {K : PySem.W.Frag} {c : Col} {e : En} {τ υ : List (R × V)} {σ : St} {H : Hp} {r : R} {v : V} (h : Rel B K c e (τ ++ υ ++ [(r, v)]) σ H) : ∃ c', Rel B K c' e (τ ++ [(r, v)]) σ H := by
  have hr := h.top
  have h0 : Rel B K c e τ σ H := by
    rw [List.append_assoc] at h
    exact h.pops
  cases r with
  | bor i => exact ⟨c, h0.push hr⟩
  | tmp t =>
    by_cases hz : υ.length = 0
    · have e0 : υ = [] := List.eq_nil_of_length_eq_zero hz
      subst e0
      rw [List.append_nil] at hr
      exact ⟨c, h0.push hr⟩
    · refine ⟨c.mv (.tm (τ ++ υ).length) (some (.tm τ.length)), ?_⟩
      have kp : Kp c H (c.mv (.tm (τ ++ υ).length) (some (.tm τ.length))) H := .mv (by intro z; cases z)
      refine (h0.kp kp fun j hj => .mvo ?_).push (TvOk.mv hr kp .mvs)
      rcases hj with ⟨i, rfl, _⟩ | ⟨i, rfl, hi⟩
      · intro z; cases z
      · intro z
        cases z
        rw [List.length_append] at hi
        omega
theorem Nw.val {K : PySem.W.Frag} {c : Col} {e : En} {τ : List (R × V)} {σ : St} {H H' : Hp} {d : Dt} {v : V} (h : Rel B K c e τ σ H) (n : Nw K c H (.val d) v H') : ∃ c', Rel B K c' e τ σ H' ∧ Im K c' H' v d := by
  obtain ⟨c', R'⟩ := h.new n
  exact ⟨c', R'.pop, R'.top⟩
theorem vs_for {tg iter : Expr} {b : List Stmt} {m : M (List Dt)} {g : Tg} {mb : S} {pos : Pos} {sl : List Nat} (hp : PassesOwn (model X.prog X.w) X.A X.env X.xe) (hc : X.calm = true) (hi : VI X B W tg iter m) (hg : VG X B tg g sl) (hb : VSs X B W b mb)
    (hs : ∀ x, foldedSetIterable iter X.env x = pure x := by intro _; rfl) : VS X B W (.For tg iter b [] pos) (sFor m g mb) := by
  refine PS.imp (ps_for hp hc hi hg hb hs) fun D σ H h => ?_
  obtain ⟨c, e, τ, r, nb, h⟩ := h
  refine ⟨c, e, τ, r, wp_mono (wp_run h) (fun ds e1 q J υ c1 H1 sr R1 => ?_) fun _ _ q => q σ⟩
  refine ⟨fun i m σ H => m = ds.length - i ∧ ∃ c e, Rel B X.K c e (τ ++ υ) σ H ∧ (itF g mb (ds.drop i) e).wp (PoOf B X.K X.mg W τ D), ⟨_, rfl, c1, e1, R1, q⟩, ?_⟩
  rintro i m2 σ2 H2 ⟨rfl, c2, e2, R2, q2⟩
  have nbu : NoB (τ ++ υ) := fun p hp => (List.mem_append.mp hp).elim (nb p) (sr.nb p)
  by_cases hlt : i < ds.length
  · refine .inr ⟨sr.go c2 H2 i R2.tms hlt, fun σ' H' => ∃ c e, Rel B X.K c e (τ ++ υ) σ' H' ∧ (itF g mb (ds.drop (i + 1)) e).wp (PoOf B X.K X.mg W τ D), fun σ' H' hN => ⟨ds.length - (i + 1), by omega, rfl, hN⟩, fun x H3 y => ?_⟩
    have n := sr.yld c2 H2 i x H3 R2.tms y ds[i] (List.getElem?_eq_getElem hlt)
    obtain ⟨c3, R3, im⟩ := Nw.val R2 n
    rw [List.drop_eq_getElem_cons hlt] at q2
    unfold itF at q2
    cases hgd : g ds[i] e2 with
    | none => rw [hgd] at q2; exact q2.elim
    | some e3 =>
      rw [hgd] at q2
      refine ⟨c3, e2, τ ++ υ, ds[i], e3, R3, nbu, im, hgd, fun σ4 c4 H4 R4 _ _ => ⟨c4, e3, τ ++ υ, R4, nbu, ?_⟩⟩
      simp only at q2
      cases hbe : mb e3 with
      | nx e5 => rw [hbe] at q2; exact fun σ5 c5 H5 R5 => ⟨c5, e5, R5, q2⟩
      | ct e5 => rw [hbe] at q2; exact fun σ5 c5 H5 R5 => ⟨c5, e5, R5, q2⟩
      | bk e5 => rw [hbe] at q2; exact fun σ5 c5 H5 R5 => q2 σ5 c5 H5 R5.pops
      | rt r5 e5 =>
        rw [hbe] at q2
        intro v σ5 c5 H5 R5
        obtain ⟨c6, R6⟩ := R5.slide
        exact q2 v σ5 c6 H5 R6
      | er x5 e5 => rw [hbe] at q2; exact fun σ5 => (q2 σ5).more
      | bad => rw [hbe] at q2; exact q2.elim
  · refine .inl ⟨sr.stop c2 H2 i R2.tms (Nat.le_of_not_lt hlt), ?_⟩
    rw [List.drop_eq_nil_of_le (Nat.le_of_not_lt hlt)] at q2
    exact q2 σ2 c2 H2 R2.pops
end
end VL


/-! VD: defs and their calls. -/
namespace VL
open PySem PySem.Spec L2
open PyProof.Rows hiding St

/-! ### data without lists and dicts -/
mutual
def noM : Dt → Bool
  | .list _ => false
  | .dict _ => false
  | .tuple ds => noMs ds
  | _ => true
def noMs : List Dt → Bool
  | [] => true
  | d :: ds => noM d && noMs ds
end
def noMv : List (Dt × Dt) → Bool
  | [] => true
  | (_, d) :: ds => noM d && noMv ds
def noMo : Ob → Bool
  | .lst ds => noMs ds
  | .dic es => noMv es
  | .pot _ _ _ => true
  | .scr _ => true
  | .grid rows => rows.all noMs
def noMt : Tv → Bool
  | .val d => noM d
  | .own o => noMo o
  | .io _ => false
section
variable {K : PySem.W.Frag} {c c' : Col} {H : Hp}
mutual
theorem Im.noM : ∀ {v : V} (d : Dt), noM d = true → Im K c H v d → Im K c' H v d
  | _, .none, _, .non => .non
  | _, .bool _, _, .bl b => .bl b
  | _, .int _, _, .int i => .int i
  | _, .str _, _, .str x => .str x
  | _, .tuple ds, e, .tup h hs => .tup h (Ims.noM ds (by unfold VL.noM at e; exact e) hs)
  | _, .list ds, e, _ => by unfold VL.noM at e; cases e
  | _, .dict ds, e, _ => by unfold VL.noM at e; cases e
theorem Ims.noM : ∀ {vs : List V} (ds : List Dt), noMs ds = true → Ims K c H vs ds → Ims K c' H vs ds
  | _, [], _, .nil => .nil
  | _, d :: ds, e, .cons h hs => by
    unfold VL.noMs at e
    rw [Bool.and_eq_true] at e
    exact .cons (Im.noM d e.1 h) (Ims.noM ds e.2 hs)
end
theorem Kvs.noM : ∀ {kvs : List (Key × V)} (es : List (Dt × Dt)), noMv es = true → Kvs K c H kvs es → Kvs K c' H kvs es
  | _, [], _, .nil => .nil
  | _, (_, d) :: es, e, .cons h hs => by
    unfold VL.noMv at e
    rw [Bool.and_eq_true] at e
    exact .cons (Im.noM d e.1 h) (Kvs.noM es e.2 hs)
mutual
theorem Im.ic (i : ∀ a, ((∃ xs, H a = some (.lst xs)) ∨ ∃ es, H a = some (.dK es)) → c a = none → c' a = none) : ∀ {v : V} (d : Dt), Im K c H v d → Im K c' H v d
  | _, .none, .non => .non
  | _, .bool _, .bl b => .bl b
  | _, .int _, .int i => .int i
  | _, .str _, .str x => .str x
  | _, .tuple ds, .tup h hs => .tup h (Ims.ic i ds hs)
  | _, .list ds, .lst hc h hs => .lst (i _ (.inl ⟨_, h⟩) hc) h (Ims.ic i ds hs)
  | _, .dict es, .dic hc h hs => .dic (i _ (.inr ⟨_, h⟩) hc) h (Kvs.ic i es hs)
theorem Ims.ic (i : ∀ a, ((∃ xs, H a = some (.lst xs)) ∨ ∃ es, H a = some (.dK es)) → c a = none → c' a = none) : ∀ {vs : List V} (ds : List Dt), Ims K c H vs ds → Ims K c' H vs ds
  | _, [], .nil => .nil
  | _, d :: ds, .cons h hs => .cons (Im.ic i d h) (Ims.ic i ds hs)
theorem Kvs.ic (i : ∀ a, ((∃ xs, H a = some (.lst xs)) ∨ ∃ es, H a = some (.dK es)) → c a = none → c' a = none) : ∀ {kvs : List (Key × V)} (es : List (Dt × Dt)), Kvs K c H kvs es → Kvs K c' H kvs es
  | _, [], .nil => .nil
  | _, (_, d) :: es, .cons h hs => .cons (Im.ic i d h) (Kvs.ic i es hs)
end
theorem Gr.ic {i j : Cl} : ∀ {as : List Addr} {rs : List (List Dt)}, (rs.all noMs = true ∨ ∀ a, ((∃ xs, H a = some (.lst xs)) ∨ ∃ es, H a = some (.dK es)) → c a = none → c' a = none) →
    (∀ b, ((∃ xs, H b = some (.lst xs)) ∨ ∃ es, H b = some (.dK es)) → c b = some i → c' b = some j) → Gr K c H i as rs → Gr K c' H j as rs
  | _, _, _, _, .nil => .nil
  | _, _, hn, m, .cons h1 h2 h3 h4 => .cons (m _ (.inl ⟨_, h2⟩) h1) h2
      (hn.elim (fun e => h3.noM _ (by rw [List.all_cons, Bool.and_eq_true] at e; exact e.1)) fun i => Ims.ic i _ h3)
      (h4.ic (hn.imp (fun e => by rw [List.all_cons, Bool.and_eq_true] at e; exact e.2) id) m)
/-- an owned thing under other colours -/
theorem ObAt.ic {i j : Cl} {a : Addr} {o : Ob} (hn : noMo o = true ∨ ∀ a, ((∃ xs, H a = some (.lst xs)) ∨ ∃ es, H a = some (.dK es)) → c a = none → c' a = none)
    (m : ∀ b, ((∃ xs, H b = some (.lst xs)) ∨ ∃ es, H b = some (.dK es)) → c b = some i → c' b = some j) (h : ObAt K c H i a o) : ObAt K c' H j a o := by
  cases o with
  | lst ds =>
    obtain ⟨h1, vs, h2, h3⟩ := h
    exact ⟨m _ (.inl ⟨_, h2⟩) h1, vs, h2, hn.elim (fun e => h3.noM _ e) fun i => Ims.ic i _ h3⟩
  | dic es =>
    obtain ⟨h1, vs, h2, h3⟩ := h
    exact ⟨m _ (.inr ⟨_, h2⟩) h1, vs, h2, hn.elim (fun e => h3.noM _ e) fun i => Kvs.ic i _ h3⟩
  | pot cs p t =>
    obtain ⟨h1, b, hb, h2, h3, h4⟩ := h
    exact ⟨m _ (.inl ⟨_, h3⟩) h1, b, hb, m _ (.inl ⟨_, h4⟩) h2, h3, h4⟩
  | scr ns => exact h
  | grid rows =>
    obtain ⟨h1, as, h2, h3, h4, h5⟩ := h
    exact ⟨m _ (.inl ⟨_, h2⟩) h1, as, h2, h3, h4, h5.ic hn m⟩
theorem TvOk.ic {i j : Cl} {t : Tv} {v : V} (hn : noMt t = true ∨ ∀ a, ((∃ xs, H a = some (.lst xs)) ∨ ∃ es, H a = some (.dK es)) → c a = none → c' a = none)
    (m : ∀ b, ((∃ xs, H b = some (.lst xs)) ∨ ∃ es, H b = some (.dK es)) → c b = some i → c' b = some j) (h : TvOk K c H i t v) (hio : ∀ o, t ≠ .io o) : TvOk K c' H j t v := by
  cases t with
  | val d => exact hn.elim (fun e => Im.noM d e h) fun i => Im.ic i d h
  | own o =>
    obtain ⟨a, e, h⟩ := h
    exact ⟨a, e, h.ic hn m⟩
  | io o => exact absurd rfl (hio o)
end

/-! ### what a def does -/
inductive Re where
  | ok (t : Tv) (os : Option Ob)
  | er (x : Ex) (os : Option Ob)
  | bad
abbrev Fn := List Tv → Re
def ioIx : List Tv → Option Nat
  | [] => none
  | .io _ :: _ => some 0
  | _ :: r => (ioIx r).map (· + 1)
theorem ioIx_at : ∀ {args : List Tv} {j : Nat} {o : Ob}, args[j]? = some (.io o) → (∀ i o', args[i]? = some (.io o') → i = j) → ioIx args = some j
  | [], _, _, h, _ => by simp at h
  | .io o' :: r, j, o, h, u => by rw [← u 0 o' rfl]; rfl
  | .val d :: r, 0, _, h, _ => by cases h
  | .own d :: r, 0, _, h, _ => by cases h
  | .val d :: r, j + 1, o, h, u => by
    have := ioIx_at (args := r) (j := j) (o := o) (by simpa using h) fun i o' hi => Nat.succ.inj (u (i + 1) o' (by simpa using hi))
    unfold ioIx
    rw [this]
    rfl
  | .own d :: r, j + 1, o, h, u => by
    have := ioIx_at (args := r) (j := j) (o := o) (by simpa using h) fun i o' hi => Nat.succ.inj (u (i + 1) o' (by simpa using hi))
    unfold ioIx
    rw [this]
    rfl
def outOf (args : List Tv) (e : En) : Option (Option Ob) :=
  match ioIx args with
  | none => some none
  | some j => match e[j]? with
    | some (some (.io o)) => some (some o)
    | _ => none
def resOf (e : En) : R → Option Tv
  | .tmp (.io _) => none
  | .tmp t => some t
  | .bor i => match e[i]? with
    | some (some (.own o)) => some (.own o)
    | some (some (.val d)) => some (.val d)
    | _ => none
def env0 (n : Nat) (args : List Tv) : En := args.map some ++ List.replicate (n - args.length) none
def runF (m : S) (n np : Nat) : Fn := fun args => if args.length = np then
  match m (env0 n args) with
  | .nx e => match outOf args e with
    | some os => .ok (.val .none) os
    | none => .bad
  | .rt r e => match resOf e r, outOf args e with
    | some t, some os => .ok t os
    | _, _ => .bad
  | .er x e => match outOf args e with
    | some os => .er x os
    | none => .bad
  | _ => .bad
  else .bad
structure InOk (K : PySem.W.Frag) (c : Col) (H : Hp) (vs : List V) (args : List Tv) : Prop where
  len : vs.length = args.length
  ok : ∀ (j : Nat) (t : Tv), args[j]? = some t → ∃ v, vs[j]? = some v ∧ TvOk K c H (.sl j) t v
  col : ∀ b u, H b = some u → (c b = none ∨ c b = some .bs) ∨ ∃ (j : Nat) (o : Ob), args[j]? = some (.io o) ∧ c b = some (.sl j) ∧ ((∃ xs, u = .lst xs) ∨ ∃ es, u = .dK es)
  one : ∀ (i j : Nat) (o o' : Ob), args[i]? = some (.io o) → args[j]? = some (.io o') → i = j
def OutOk (K : PySem.W.Frag) (c : Col) (H : Hp) (vs : List V) (args : List Tv) (os : Option Ob) : Prop :=
  ∀ (j : Nat) (o : Ob), args[j]? = some (.io o) → ∃ o' a, os = some o' ∧ vs[j]? = some (.ref a) ∧ ObAt K c H (.sl j) a o'
def FnSem (K : PySem.W.Frag) (mg : Str → Option Value) (F : Fn) : Sp := fun vs H Q E => ∃ c args, InOk K c H vs args ∧
  match F args with
  | .ok t os => ∀ v c' H', Kp c H c' H' → OutOk K c' H' vs args os → TvOk K c' H' (.tm 0) t v → (∀ o, t ≠ .io o) → Q v H'
  | .er x os => ∀ cls d c' H', Kp c H c' H' → OutOk K c' H' vs args os → ExOk mg H' x cls d → E cls d H'
  | .bad => False
section
variable {P : Program} {w : World} {K : PySem.W.Frag} {mg : Str → Option Value} {base : Heap}
theorem out_ok {B : Bs} {c : Col} {e : En} {τ : List (R × V)} {σ : St} {H' : Hp} {vs : List V} {args : List Tv} {os : Option Ob} {N : List Str} (R : Rel B K c e τ σ H') (hB : B.s = L2.start N vs) (h : outOf args e = some os) (len : vs.length = args.length)
    (one : ∀ (i j : Nat) (o o' : Ob), args[i]? = some (.io o) → args[j]? = some (.io o') → i = j) : OutOk K c H' vs args os := by
  intro j o hj
  have hx := ioIx_at hj fun i o' hi => one i j o' o hi hj
  unfold outOf at h
  rw [hx] at h
  simp only at h
  split at h
  · rename_i o' he
    cases h
    obtain ⟨v, h1, a, rfl, h2⟩ := R.sl j _ he
    have h3 := R.io j o' he
    have hlt : j < vs.length := by rw [len]; exact (List.getElem?_eq_some_iff.mp hj).1
    rw [h1, hB] at h3
    unfold L2.start at h3
    rw [List.getElem?_append_left (by rw [List.length_map]; exact hlt), List.getElem?_map, List.getElem?_eq_getElem hlt] at h3
    have h4 : V.ref a = vs[j] := by simpa using h3
    exact ⟨o', a, rfl, by rw [List.getElem?_eq_getElem hlt, h4], h2⟩
  · cases h
/-- the entry's base -/
def bsOf (H : Hp) (c : Col) (s : St) : Bs := ⟨H, c, fun b => ∃ j, c b = some (.sl j), s, fun _ _ => False⟩
theorem rel0 {H : Hp} {c : Col} {vs : List V} {args : List Tv} {N : List Str} (I : InOk K c H vs args) : Rel (bsOf H c (L2.start N vs)) K c (env0 N.length args) [] (L2.start N vs) H := by
  refine ⟨?_, fun i t ht => ?_, fun k r v h => by simp at h, fun b u h _ => ⟨h, rfl⟩, fun b u h n => ?_, fun i o h => rfl, fun _ _ z => z.elim⟩
  · unfold env0 L2.start
    rw [List.length_append, List.length_append, List.length_map, List.length_map, List.length_replicate, List.length_replicate, I.len]
  · unfold env0 at ht
    by_cases hi : i < args.length
    · rw [List.getElem?_append_left (by rw [List.length_map]; exact hi), List.getElem?_map] at ht
      have ht' : args[i]? = some t := by
        cases q : args[i]? with
        | none => rw [q] at ht; cases ht
        | some x => rw [q] at ht; cases ht; rfl
      obtain ⟨v, h1, h2⟩ := I.ok i t ht'
      refine ⟨v, ?_, h2⟩
      unfold L2.start
      rw [List.getElem?_append_left (by rw [List.length_map, I.len]; exact hi), List.getElem?_map, h1]
      rfl
    · rw [List.getElem?_append_right (by rw [List.length_map]; omega), List.getElem?_replicate] at ht
      split at ht <;> cases ht
  · rcases I.col b u h with z | ⟨j, o, _, z, _⟩
    · exact z
    · exact absurd ⟨j, z⟩ n
theorem kp0 {H H' : Hp} {c c' : Col} {e : En} {τ : List (R × V)} {σ s : St} {vs : List V} {args : List Tv} (I : InOk K c H vs args) (R : Rel (bsOf H c s) K c' e τ σ H') : Kp c H c' H' where
  obj := fun a u h hc => R.fr a u h fun ⟨j, z⟩ => by
    rw [z] at hc
    rcases hc with q | q <;> cases q
  tup := fun a xs h => (R.fr a _ h fun ⟨j, z⟩ => by
    rcases I.col a _ h with q | ⟨_, _, _, _, ⟨_, q⟩ | ⟨_, q⟩⟩
    · rw [z] at q
      rcases q with q | q <;> cases q
    · cases q
    · cases q).1
  frz := fun a o u h => (R.fr a _ h fun ⟨j, z⟩ => by
    rcases I.col a _ h with q | ⟨_, _, _, _, ⟨_, q⟩ | ⟨_, q⟩⟩
    · rw [z] at q
      rcases q with q | q <;> cases q
    · cases q
    · cases q).1
/-- THE RULE for a def -/
theorem fn_ok {x qual : Str} {st : Stmt} {f : Addr} {fd : FuncData} {N ps : List Str} {k : Nat} {m : S} (F : Fun K x qual st f fd) (Sc : FnScope N ps (defScope st))
    (hb : ∀ (cdv : Value) (A : Around) (outer : List Env) (s : Shared) (H : Hp) (E : XK) (B : Bs), Room k (A.deeper (envOfC qual (defScope st) s.heap.objs.size f cdv)) →
      VSs (cxOf (L2.CX P w) P w K mg base N qual (defScope st) f cdv A outer s H E) B (fun cls d _ H' => E cls d H') (defBody st) m) :
    FnOk P w K mg base (L2.CX P w) (k + 1) f fd ps (FnSem K mg (runF m N.length ps.length)) := by
  refine F.okX Sc (fun vs H Q E h => ?_) fun cdv A outer s H vs Q E hr h => ?_
  · obtain ⟨c, args, I, h⟩ := h
    by_cases hl : args.length = ps.length
    · rw [I.len, hl]
    · unfold runF at h
      rw [if_neg hl] at h
      exact h.elim
  obtain ⟨c, args, I, h⟩ := h
  have R0 := rel0 (N := N) I
  refine ⟨_, hb cdv A outer s H E (bsOf H c (L2.start N vs)) hr, c, _, [], R0, NoB.nil, ?_⟩
  by_cases hl : args.length = ps.length
  case neg =>
    unfold runF at h
    rw [if_neg hl] at h
    exact h.elim
  unfold runF at h
  rw [if_pos hl] at h
  cases hm : m (env0 N.length args) with
  | nx e =>
    rw [hm] at h
    simp only at h
    cases ho : outOf args e with
    | none => rw [ho] at h; exact h.elim
    | some os =>
      rw [ho] at h
      intro σ c' H' R
      exact h .non c' H' (kp0 I R) (out_ok R rfl ho I.len I.one) Im.non (fun o z => nomatch z)
  | rt r e =>
    rw [hm] at h
    simp only at h
    cases hr : resOf e r with
    | none => rw [hr] at h; exact h.elim
    | some t =>
      cases ho : outOf args e with
      | none => rw [hr, ho] at h; exact h.elim
      | some os =>
        rw [hr, ho] at h
        intro v σ c' H' R
        cases r with
        | tmp t' =>
          have e2 : t = t' ∧ ∀ o, t ≠ .io o := by
            unfold resOf at hr
            split at hr
            · cases hr
            · rename_i hno heq
              cases heq
              cases hr
              exact ⟨rfl, hno⟩
            · rename_i heq
              cases heq
          obtain ⟨rfl, hno⟩ := e2
          exact h v c' H' (kp0 I R) (out_ok R rfl ho I.len I.one) R.top hno
        | bor i =>
          have h1 : σ[i]? = some (some v) := R.top
          obtain ⟨t', h2⟩ : ∃ t', e[i]? = some (some t') := by
            unfold resOf at hr
            simp only at hr
            split at hr
            · rename_i heq; exact ⟨_, heq⟩
            · rename_i heq; exact ⟨_, heq⟩
            · cases hr
          obtain ⟨v', h3, h4⟩ := R.sl i t' h2
          rw [h1] at h3
          cases h3
          have e2 : t = t' ∧ ∀ o, t ≠ .io o := by
            unfold resOf at hr
            simp only [h2] at hr
            split at hr
            · rename_i heq
              cases heq
              cases hr
              exact ⟨rfl, fun o z => nomatch z⟩
            · rename_i heq
              cases heq
              cases hr
              exact ⟨rfl, fun o z => nomatch z⟩
            · cases hr
          obtain ⟨rfl, hno⟩ := e2
          -- the slot's thing becomes the answer
          have kp : Kp c' H' (c'.mv (.sl i) (some (.tm 0))) H' := .mv (by intro z; cases z)
          refine h v (c'.mv (.sl i) (some (.tm 0))) H' ((kp0 I R).trans kp) ?_ (h4.mv kp .mvs) hno
          intro j o hj
          obtain ⟨o', a, q1, q2, q3⟩ := out_ok R rfl ho I.len I.one j o hj
          refine ⟨o', a, q1, q2, q3.mv kp (.mvo ?_)⟩
          intro z
          cases z
          -- the slot i is no parameter that is written
          have hx := ioIx_at hj fun i' o'' hi => I.one i' i o'' o hi hj
          unfold outOf at ho
          rw [hx] at ho
          simp only [h2] at ho
          split at ho
          · rename_i o2 heq
            cases heq
            exact hno _ rfl
          · cases ho
  | er x e =>
    rw [hm] at h
    simp only at h
    cases ho : outOf args e with
    | none => rw [ho] at h; exact h.elim
    | some os =>
      rw [ho] at h
      intro σ cls d c' H' R q
      exact h cls d c' H' (kp0 I R) (out_ok R rfl ho I.len I.one) q
  | bk e => rw [hm] at h; exact h.elim
  | ct e => rw [hm] at h; exact h.elim
  | bad => rw [hm] at h; exact h.elim
end

/-! ### calls -/
/-- what is handed over stands still, but for what is to be written, and (where fa is false) what is only looked at -/
def pass1 (io : Option Nat) (fa : Bool) (j : Nat) (r : R) : M R :=
  if io = some j then M.ret r else match r with
    | .tmp t => (frz (.tmp t)).bind fun d => M.ret (.tmp (.val d))
    | .bor i => if fa = true then (frz (.bor i)).bind fun d => M.ret (.tmp (.val d)) else M.ret (.bor i)
def passL (io : Option Nat) (fa : Bool) : Nat → List R → M (List R)
  | _, [] => M.ret []
  | j, r :: rs => (pass1 io fa j r).bind fun r' => (passL io fa (j + 1) rs).bind fun rs' => M.ret (r' :: rs')
def argOf (io : Option Nat) (e : En) (j : Nat) (r : R) : Option Tv :=
  if io = some j then match r with
    | .bor i => match e[i]? with
      | some (some (.own o)) => some (.io o)
      | some (some (.io o)) => some (.io o)
      | _ => none
    | _ => none
  else match r with
    | .tmp (.val d) => some (.val d)
    | .tmp _ => none
    | .bor i => (vw e (.bor i)).map .val
def argsOf (io : Option Nat) (e : En) : Nat → List R → Option (List Tv)
  | _, [] => some []
  | j, r :: rs => match argOf io e j r, argsOf io e (j + 1) rs with
    | some a, some as => some (a :: as)
    | _, _ => none
/-- the slot that is written -/
def ioSlot (io : Option Nat) (rs : List R) : Option Nat :=
  match io with
  | none => none
  | some j => match rs[j]? with
    | some (.bor i) => some i
    | _ => none
/-- the slots that are looked at, but for the one that is written -/
def looked (io : Option Nat) : Nat → List R → List Nat
  | _, [] => []
  | j, .bor i :: rs => if io = some j then looked io (j + 1) rs else i :: looked io (j + 1) rs
  | j, _ :: rs => looked io (j + 1) rs
def putO (e : En) (i : Option Nat) (os : Option Ob) : Option En :=
  match i, os with
  | none, _ => some e
  | some i, some o => match e[i]? with
    | some (some (.own _)) => some (e.set i (some (.own o)))
    | some (some (.io _)) => some (e.set i (some (.io o)))
    | _ => none
  | some _, none => none
def noMos : Option Ob → Bool
  | none => true
  | some o => noMo o
def notIo : Tv → Bool
  | .io _ => false
  | _ => true
def appF (F : Fn) (io : Option Nat) (rs : List R) : M R := fun e =>
  match argsOf io e 0 rs with
  | none => .bad
  | some args =>
    if (looked io 0 rs).all (fun i => !decide (ioSlot io rs = some i)) = true then
      match F args with
      | .ok t os => if (looked io 0 rs = [] ∨ (noMt t = true ∧ noMos os = true)) ∧ notIo t = true then match putO e (ioSlot io rs) os with
          | some e' => .ok (.tmp t) e'
          | none => .bad
        else .bad
      | .er x os => if looked io 0 rs = [] ∨ noMos os = true then match putO e (ioSlot io rs) os with
          | some e' => .er x e'
          | none => .bad
        else .bad
      | .bad => .bad
    else .bad
def mCall (F : Fn) (io : Option Nat) (fa : Bool) (ms : M (List R)) : M R := ms.bind fun rs => (passL io fa 0 rs).bind fun rs' => appF F io rs'
end VL


/-! VD2: a call as a step of the caller. -/
namespace VL
open PySem PySem.Spec L2
open PyProof.Rows hiding St

def LD (o : Option HO) : Prop := (∃ xs, o = some (.lst xs)) ∨ ∃ es, o = some (.dK es)
theorem passL_ok {B : Bs} {K : PySem.W.Frag} {σ : St} {H : Hp} {io : Option Nat} {fa : Bool} : ∀ {rs : List R} {vs : List V} {j : Nat} {c : Col} {e : En} {τ : List (R × V)} {Q : List R → En → Prop} {E : Ex → En → Prop}, vs.length = rs.length → Rel B K c e (τ ++ rs.zip vs) σ H → (passL io fa j rs e).wp Q E →
    ∃ rs' c' e', rs'.length = rs.length ∧ Rel B K c' e' (τ ++ rs'.zip vs) σ H ∧ Q rs' e'
  | [], [], j, c, e, τ, Q, E, _, R, h => ⟨[], c, e, rfl, R, h⟩
  | [], _ :: _, _, _, _, _, _, _, h, _, _ => nomatch h
  | _ :: _, [], _, _, _, _, _, _, h, _, _ => nomatch h
  | r :: rs, v :: vs, j, c, e, τ, Q, E, hl, R, h => by
    rw [List.zip_cons_cons] at R
    have key : ∃ r' c1 e1, Rel B K c1 e1 (τ ++ (r', v) :: rs.zip vs) σ H ∧ (((passL io fa (j + 1) rs).bind fun rs' => M.ret (r' :: rs')) e1).wp Q E := by
      have h := wp_bind h
      unfold pass1 at h
      split at h
      · exact ⟨r, c, e, R, h⟩
      · cases r with
        | tmp t =>
          obtain ⟨d, e1, h1, h2⟩ := wp_frz (wp_bind h)
          obtain ⟨c1, R1, _⟩ := R.frzMid h1
          exact ⟨_, c1, e1, R1, h2⟩
        | bor i =>
          simp only at h
          split at h
          · obtain ⟨d, e1, h1, h2⟩ := wp_frz (wp_bind h)
            obtain ⟨c1, R1, _⟩ := R.frzMid h1
            exact ⟨_, c1, e1, R1, h2⟩
          · exact ⟨_, c, e, R, h⟩
    obtain ⟨r', c1, e1, R1, h1⟩ := key
    obtain ⟨rs', c2, e2, hl2, R2, q⟩ := passL_ok (τ := τ ++ [(r', v)]) (Nat.succ.inj hl) (by rw [List.append_assoc]; exact R1) (wp_bind h1)
    refine ⟨r' :: rs', c2, e2, congrArg (· + 1) hl2, ?_, q⟩
    rw [List.zip_cons_cons]
    rw [List.append_assoc] at R2
    exact R2

open Classical in
/-- the colours at the callee's entry: the slot i0 is its parameter j0; the slots looked at stand still -/
noncomputable def cIn (H : Hp) (c : Col) (jo : Option Nat) (io : Option Nat) (fl : List Nat) : Col := fun b =>
  if LD (H b) then
    match c b with
    | none => none
    | some cl => if (∃ i j, io = some i ∧ jo = some j ∧ cl = .sl i) then some (.sl (jo.getD 0)) else if (∃ i, i ∈ fl ∧ cl = .sl i) then none else some .bs
  else match H b with
    | some (.frz _ _) => if c b = none then none else some .bs
    | _ => none
open Classical in
/-- the colours behind the call -/
noncomputable def cOut (H : Hp) (c c' : Col) (jo io : Option Nat) (k : Nat) : Col := fun b =>
  if H b ≠ none ∧ ¬ (∃ i j, io = some i ∧ jo = some j ∧ c b = some (.sl i)) then c b
  else match c' b with
    | none => none
    | some (.sl j) => if (∃ i, io = some i ∧ jo = some j) then some (.sl (io.getD 0)) else some .jk
    | some (.tm 0) => some (.tm k)
    | _ => some .jk
section
variable {H H' : Hp} {c c' : Col} {jo io : Option Nat} {fl : List Nat} {k : Nat}
theorem cIn_none {b : Addr} (h : c b = none) : cIn H c jo io fl b = none := by
  unfold cIn
  split
  · rw [h]
  · split
    · first | rfl | rw [if_pos h]
    · rfl
theorem cIn_look {b : Addr} {i : Nat} (hL : LD (H b)) (h : c b = some (.sl i)) (hi : i ∈ fl) (hne : io ≠ some i) : cIn H c jo io fl b = none := by
  unfold cIn
  rw [if_pos hL, h]
  simp only
  rw [if_neg, if_pos ⟨i, hi, rfl⟩]
  rintro ⟨i', j, e1, _, e2⟩
  cases e2
  exact hne e1
theorem cIn_io {b : Addr} {i j : Nat} (hL : LD (H b)) (h : c b = some (.sl i)) (hi : io = some i) (hj : jo = some j) : cIn H c jo io fl b = some (.sl j) := by
  unfold cIn
  rw [if_pos hL, h]
  simp only
  rw [if_pos ⟨i, j, hi, hj, rfl⟩, hj]
  rfl
/-- what is not the thing that is written -/
theorem cIn_old {b : Addr} (h : ¬ (∃ i j, io = some i ∧ jo = some j ∧ c b = some (.sl i))) : cIn H c jo io fl b = none ∨ cIn H c jo io fl b = some .bs := by
  unfold cIn
  split
  · cases hc : c b with
    | none => exact .inl rfl
    | some cl =>
      simp only
      rw [if_neg]
      · split
        · exact .inl rfl
        · exact .inr rfl
      · rintro ⟨i, j, e1, e2, e3⟩
        exact h ⟨i, j, e1, e2, by rw [hc, e3]⟩
  · split
    · split
      · exact .inl rfl
      · exact .inr rfl
    · exact .inl rfl
theorem cIn_col {b : Addr} {u : HO} (e : H b = some u) : (cIn H c jo io fl b = none ∨ cIn H c jo io fl b = some .bs) ∨ ∃ i j, io = some i ∧ jo = some j ∧ c b = some (.sl i) ∧ cIn H c jo io fl b = some (.sl j) ∧ ((∃ xs, u = .lst xs) ∨ ∃ es, u = .dK es) := by
  by_cases h : ∃ i j, io = some i ∧ jo = some j ∧ c b = some (.sl i)
  · obtain ⟨i, j, h1, h2, h3⟩ := h
    by_cases hL : LD (H b)
    · refine .inr ⟨i, j, h1, h2, h3, cIn_io hL h3 h1 h2, ?_⟩
      rcases hL with ⟨xs, q⟩ | ⟨es, q⟩
      · rw [e] at q; exact .inl ⟨xs, Option.some.inj q⟩
      · rw [e] at q; exact .inr ⟨es, Option.some.inj q⟩
    · left
      unfold cIn
      rw [if_neg hL]
      split
      · split
        · exact .inl rfl
        · exact .inr rfl
      · exact .inl rfl
  · exact .inl (cIn_old h)
theorem cOut_old {b : Addr} (h1 : H b ≠ none) (h2 : ¬ (∃ i j, io = some i ∧ jo = some j ∧ c b = some (.sl i))) : cOut H c c' jo io k b = c b := if_pos ⟨h1, h2⟩
theorem cOut_kp (kp : Kp (cIn H c jo io fl) H c' H') : Kp c H (cOut H c c' jo io k) H' where
  obj := fun a u h hc => by
    have hn : ¬ (∃ i j, io = some i ∧ jo = some j ∧ c a = some (.sl i)) := by
      rintro ⟨i, j, _, _, q⟩
      rw [q] at hc
      rcases hc with z | z <;> cases z
    exact ⟨(kp.obj a u h (cIn_old hn)).1, cOut_old (by rw [h]; intro z; cases z) hn⟩
  tup := kp.tup
  frz := kp.frz
theorem cOut_km {j : Cl} (kp : Kp (cIn H c jo io fl) H c' H') (hj : ∀ i, io = some i → (∃ q, jo = some q) → j ≠ .sl i) : KM j j c H (cOut H c c' jo io k) H' := fun b u hc h => by
  have hn : ¬ (∃ i j, io = some i ∧ jo = some j ∧ c b = some (.sl i)) := by
    rintro ⟨i, q, e1, e2, z⟩
    rw [hc] at z
    exact hj i e1 ⟨q, e2⟩ (Option.some.inj z)
  exact ⟨(kp.obj b u h (cIn_old hn)).1, by rw [cOut_old (by rw [h]; intro z; cases z) hn]; exact hc⟩
theorem cOut_sl {b : Addr} {i j : Nat} (kp : Kp (cIn H c jo io fl) H c' H') (hi : io = some i) (hj : jo = some j) (h : c' b = some (.sl j)) : cOut H c c' jo io k b = some (.sl i) := by
  by_cases hb : H b ≠ none ∧ ¬ (∃ i j, io = some i ∧ jo = some j ∧ c b = some (.sl i))
  · exfalso
    cases e : H b with
    | none => exact hb.1 e
    | some u =>
      have z := cIn_old (H := H) (fl := fl) hb.2
      have q := (kp.obj b u e z).2
      rw [h] at q
      rw [← q] at z
      rcases z with z | z <;> cases z
  · unfold cOut
    rw [if_neg hb, h]
    simp only
    rw [if_pos ⟨i, hi, hj⟩, hi]
    rfl
theorem cOut_tm {b : Addr} (kp : Kp (cIn H c jo io fl) H c' H') (h : c' b = some (.tm 0)) : cOut H c c' jo io k b = some (.tm k) := by
  by_cases hb : H b ≠ none ∧ ¬ (∃ i j, io = some i ∧ jo = some j ∧ c b = some (.sl i))
  · exfalso
    cases e : H b with
    | none => exact hb.1 e
    | some u =>
      have z := cIn_old (H := H) (fl := fl) hb.2
      have q := (kp.obj b u e z).2
      rw [h] at q
      rw [← q] at z
      rcases z with z | z <;> cases z
  · unfold cOut
    rw [if_neg hb, h]
    rfl
/-- data that stands still behind the call stands still for the caller, where nothing was only looked at -/
theorem cOut_ic (kp : Kp (cIn H c jo io []) H c' H') : ∀ a, ((∃ xs, H' a = some (.lst xs)) ∨ ∃ es, H' a = some (.dK es)) → c' a = none → cOut H c c' jo io k a = none := fun a hL hc => by
  by_cases hb : H a ≠ none ∧ ¬ (∃ i j, io = some i ∧ jo = some j ∧ c a = some (.sl i))
  · rw [cOut_old hb.1 hb.2]
    cases e : H a with
    | none => exact absurd e hb.1
    | some u =>
      have z := cIn_old (H := H) (fl := []) hb.2
      obtain ⟨h1, q⟩ := kp.obj a u e z
      rw [hc] at q
      have q := q.symm
      unfold cIn at q
      by_cases hLd : LD (H a)
      · rw [if_pos hLd] at q
        cases hca : c a with
        | none => rfl
        | some cl =>
          rw [hca] at q
          simp only at q
          split at q
          · cases q
          · split at q
            · rename_i hx
              obtain ⟨i, hi, _⟩ := hx
              cases hi
            · cases q
      · rw [if_neg hLd] at q
        rw [e] at q hLd
        cases u with
        | frz o u' =>
          simp only at q
          split at q
          · assumption
          · cases q
        | lst xs => exact absurd (.inl ⟨xs, rfl⟩) hLd
        | dK xs => exact absurd (.inr ⟨xs, rfl⟩) hLd
        | _ =>
          exfalso
          rcases hL with ⟨xs, hL⟩ | ⟨xs, hL⟩ <;> (rw [h1] at hL; cases hL)
  · unfold cOut
    rw [if_neg hb, hc]
end
theorem argsOf_at {io : Option Nat} {e : En} : ∀ {rs : List R} {j0 : Nat} {args : List Tv}, argsOf io e j0 rs = some args → args.length = rs.length ∧ ∀ (j : Nat) (r : R), rs[j]? = some r → ∃ a, args[j]? = some a ∧ argOf io e (j0 + j) r = some a
  | [], j0, args, h => by cases h; exact ⟨rfl, fun j r h => by simp at h⟩
  | r :: rs, j0, args, h => by
    unfold argsOf at h
    split at h
    · rename_i a as h1 h2
      cases h
      obtain ⟨hl, hg⟩ := argsOf_at h2
      refine ⟨congrArg (· + 1) hl, fun j r' hj => ?_⟩
      cases j with
      | zero => cases hj; exact ⟨a, rfl, h1⟩
      | succ j =>
        obtain ⟨a', h3, h4⟩ := hg j r' (by simpa using hj)
        exact ⟨a', by simpa using h3, by rw [show j0 + (j + 1) = j0 + 1 + j by omega]; exact h4⟩
    · cases h
theorem looked_mem {io : Option Nat} : ∀ {rs : List R} {j0 j i : Nat}, rs[j]? = some (.bor i) → io ≠ some (j0 + j) → i ∈ looked io j0 rs
  | [], _, _, _, h, _ => by simp at h
  | .bor i' :: rs, j0, 0, i, h, hn => by
    cases h
    unfold looked
    rw [if_neg (by simpa using hn)]
    exact List.mem_cons_self
  | .tmp t :: rs, j0, 0, i, h, hn => by cases h
  | .bor i' :: rs, j0, j + 1, i, h, hn => by
    have q := looked_mem (io := io) (rs := rs) (j0 := j0 + 1) (j := j) (i := i) (by simpa using h) (by rw [show j0 + 1 + j = j0 + (j + 1) by omega]; exact hn)
    unfold looked
    split
    · exact q
    · exact List.mem_cons_of_mem _ q
  | .tmp t :: rs, j0, j + 1, i, h, hn => by
    have q := looked_mem (io := io) (rs := rs) (j0 := j0 + 1) (j := j) (i := i) (by simpa using h) (by rw [show j0 + 1 + j = j0 + (j + 1) by omega]; exact hn)
    unfold looked
    exact q
section
variable {B : Bs} {K : PySem.W.Frag} {mg : Str → Option Value} {c : Col} {e : En} {τ : List (R × V)} {σ : St} {H : Hp} {io : Option Nat} {rs : List R} {vs : List V} {args : List Tv}
theorem zip_at (hl : vs.length = rs.length) {j : Nat} {r : R} (hj : rs[j]? = some r) : ∃ v, vs[j]? = some v ∧ (rs.zip vs)[j]? = some (r, v) := by
  have h1 : j < rs.length := (List.getElem?_eq_some_iff.mp hj).1
  refine ⟨vs[j]'(by omega), List.getElem?_eq_getElem _, ?_⟩
  rw [List.getElem?_zip_eq_some]
  exact ⟨hj, List.getElem?_eq_getElem _⟩
theorem Rel.inOk (hl : vs.length = rs.length) (R : Rel B K c e (τ ++ rs.zip vs) σ H) (ha : argsOf io e 0 rs = some args) (hne : ∀ i ∈ looked io 0 rs, ioSlot io rs ≠ some i) :
    InOk K (cIn H c io (ioSlot io rs) (looked io 0 rs)) H vs args := by
  obtain ⟨hlen, hat⟩ := argsOf_at ha
  have ic : ∀ a, ((∃ xs, H a = some (.lst xs)) ∨ ∃ es, H a = some (.dK es)) → c a = none → cIn H c io (ioSlot io rs) (looked io 0 rs) a = none := fun a _ h => cIn_none h
  have back : ∀ {j : Nat} {t : Tv}, args[j]? = some t → ∃ r v, rs[j]? = some r ∧ vs[j]? = some v ∧ argOf io e j r = some t ∧ ROk K c H e σ (τ.length + j) r v := fun {j t} hj => by
    have h1 : j < rs.length := by rw [← hlen]; exact (List.getElem?_eq_some_iff.mp hj).1
    have hr := List.getElem?_eq_getElem h1
    obtain ⟨a, h2, h3⟩ := hat j _ hr
    rw [hj] at h2
    cases h2
    rw [Nat.zero_add] at h3
    obtain ⟨v, h4, h5⟩ := zip_at hl hr
    exact ⟨_, v, hr, h4, h3, R.tm (τ.length + j) _ v (by rw [List.getElem?_append_right (Nat.le_add_right _ _), Nat.add_sub_cancel_left]; exact h5)⟩
  have ioj : ∀ {j : Nat} {o : Ob}, args[j]? = some (.io o) → io = some j ∧ ∃ i a, ioSlot io rs = some i ∧ vs[j]? = some (.ref a) ∧ ObAt K c H (.sl i) a o := fun {j o} hj => by
    obtain ⟨r, v, hr, hv, h1, h2⟩ := back hj
    unfold argOf at h1
    split at h1
    · rename_i hio
      refine ⟨hio, ?_⟩
      cases r with
      | tmp t => cases h1
      | bor i =>
        have hs : ioSlot io rs = some i := by
          unfold ioSlot
          rw [hio]
          simp only
          rw [hr]
        have q1 : σ[i]? = some (some v) := h2
        obtain ⟨t', q2⟩ : ∃ t', e[i]? = some (some t') := by
          simp only at h1
          split at h1
          · rename_i heq; exact ⟨_, heq⟩
          · rename_i heq; exact ⟨_, heq⟩
          · cases h1
        obtain ⟨v', q3, q4⟩ := R.sl i t' q2
        rw [q1] at q3
        cases q3
        simp only [q2] at h1
        split at h1
        · rename_i heq
          cases heq
          cases h1
          obtain ⟨a, rfl, q5⟩ := q4
          exact ⟨i, a, hs, hv, q5⟩
        · rename_i heq
          cases heq
          cases h1
          obtain ⟨a, rfl, q5⟩ := q4
          exact ⟨i, a, hs, hv, q5⟩
        · cases h1
    · cases r with
      | tmp t => cases t <;> cases h1
      | bor i =>
        simp only [Option.map_eq_some_iff] at h1
        obtain ⟨d, _, z⟩ := h1
        cases z
  refine ⟨by rw [hl, hlen], fun j t hj => ?_, fun b u hb => ?_, fun i j o o' hi hj => ?_⟩
  · cases t with
    | io o =>
      obtain ⟨hio, i, a, hs, hv, q⟩ := ioj hj
      refine ⟨_, hv, a, rfl, q.ic (.inr ic) fun b hL hc => ?_⟩
      exact cIn_io hL hc hs hio
    | own o =>
      obtain ⟨r, v, hr, hv, h1, h2⟩ := back hj
      unfold argOf at h1
      split at h1
      · cases r with
        | tmp t => cases h1
        | bor i =>
          simp only at h1
          split at h1 <;> cases h1
      · cases r with
        | tmp t => cases t <;> cases h1
        | bor i =>
          simp only [Option.map_eq_some_iff] at h1
          obtain ⟨d, _, z⟩ := h1
          cases z
    | val d =>
      obtain ⟨r, v, hr, hv, h1, h2⟩ := back hj
      refine ⟨v, hv, ?_⟩
      unfold argOf at h1
      split at h1
      · cases r with
        | tmp t => cases h1
        | bor i =>
          simp only at h1
          split at h1 <;> cases h1
      · rename_i hio
        cases r with
        | tmp t =>
          cases t with
          | val d' => cases h1; exact Im.ic ic _ h2
          | own o => cases h1
          | io o => cases h1
        | bor i =>
          have hm : i ∈ looked io 0 rs := looked_mem (j := j) hr (by rw [Nat.zero_add]; exact hio)
          have hn := hne i hm
          simp only [Option.map_eq_some_iff] at h1
          obtain ⟨d', h1, z⟩ := h1
          cases z
          have q1 : σ[i]? = some (some v) := h2
          obtain ⟨t', q2⟩ : ∃ t', e[i]? = some (some t') := by
            unfold VL.vw at h1
            simp only at h1
            split at h1
            · rename_i heq; exact ⟨_, heq⟩
            · cases h1
          obtain ⟨v', q3, q4⟩ := R.sl i t' q2
          rw [q1] at q3
          cases q3
          unfold VL.vw at h1
          simp only [q2] at h1
          have own : ∀ o, obD o = some d → (∃ a, v = .ref a ∧ ObAt K c H (.sl i) a o) → Im K (cIn H c io (ioSlot io rs) (looked io 0 rs)) H v d := fun o ho h => by
            obtain ⟨a, rfl, h⟩ := h
            cases o with
            | lst ds =>
              cases ho
              obtain ⟨hc, xs, g1, g2⟩ := h
              exact .lst (cIn_look (.inl ⟨xs, g1⟩) hc hm hn) g1 (Ims.ic ic _ g2)
            | dic ds =>
              cases ho
              obtain ⟨hc, xs, g1, g2⟩ := h
              exact .dic (cIn_look (.inr ⟨xs, g1⟩) hc hm hn) g1 (Kvs.ic ic _ g2)
            | pot _ _ _ => cases ho
            | scr _ => cases ho
            | grid _ => cases ho
          cases t' with
          | val d' => cases h1; exact Im.ic ic _ q4
          | own o => exact own o h1 q4
          | io o => exact own o h1 q4
  · rcases cIn_col (c := c) (jo := io) (io := ioSlot io rs) (fl := looked io 0 rs) hb with z | ⟨i, j, h1, h2, h3, h4, h5⟩
    · exact .inl z
    · have hr : rs[j]? = some (.bor i) := by
        unfold ioSlot at h1
        rw [h2] at h1
        simp only at h1
        split at h1
        · rename_i heq
          cases h1
          exact heq
        · cases h1
      obtain ⟨a, h6, h7⟩ := hat j _ hr
      rw [Nat.zero_add] at h7
      unfold argOf at h7
      rw [if_pos h2] at h7
      simp only at h7
      split at h7
      · cases h7; exact .inr ⟨j, _, h6, h4, h5⟩
      · cases h7; exact .inr ⟨j, _, h6, h4, h5⟩
      · cases h7
  · obtain ⟨h1, _⟩ := ioj hi
    obtain ⟨h2, _⟩ := ioj hj
    rw [h1] at h2
    exact Option.some.inj h2
theorem ioSlot_some {j0 i0 : Nat} (h : ioSlot io rs = some i0) : ∃ j, io = some j ∧ rs[j]? = some (.bor i0) := by
  unfold ioSlot at h
  split at h
  · cases h
  · split at h
    · rename_i heq
      cases h
      exact ⟨_, rfl, heq⟩
    · cases h
/-- the caller's side behind the call -/
theorem Rel.back {os : Option Ob} {e' : En} {c' : Col} {H' : Hp} (hl : vs.length = rs.length) (R : Rel B K c e (τ ++ rs.zip vs) σ H) (ha : argsOf io e 0 rs = some args)
    (kp : Kp (cIn H c io (ioSlot io rs) (looked io 0 rs)) H c' H') (out : OutOk K c' H' vs args os) (hn : looked io 0 rs = [] ∨ noMos os = true) (hp : putO e (ioSlot io rs) os = some e') :
    Rel B K (cOut H c c' io (ioSlot io rs) τ.length) e' τ σ H' := by
  have k2 := cOut_kp (k := τ.length) kp
  have R0 := R.pops
  cases hs : ioSlot io rs with
  | none =>
    rw [hs] at hp k2 kp
    cases hp
    refine R0.kp k2 fun j _ => cOut_km kp fun i z => nomatch z
  | some i0 =>
    obtain ⟨j0, hj0, hr⟩ := ioSlot_some (j0 := 0) hs
    rw [hs] at hp k2 kp
    obtain ⟨hlen, hat⟩ := argsOf_at ha
    obtain ⟨a0, h1, h2⟩ := hat j0 _ hr
    rw [Nat.zero_add] at h2
    unfold argOf at h2
    rw [if_pos hj0] at h2
    simp only at h2
    obtain ⟨v, hv, hz⟩ := zip_at hl hr
    have q1 : σ[i0]? = some (some v) := R.tm (τ.length + j0) (.bor i0) v (by rw [List.getElem?_append_right (Nat.le_add_right _ _), Nat.add_sub_cancel_left]; exact hz)
    obtain ⟨t', q2⟩ : ∃ t', e[i0]? = some (some t') := by
      split at h2
      · rename_i heq; exact ⟨_, heq⟩
      · rename_i heq; exact ⟨_, heq⟩
      · cases h2
    have hi : i0 < e.length := (List.getElem?_eq_some_iff.mp q2).1
    -- the thing that was written
    have wr : ∀ o, args[j0]? = some (.io o) → ∃ o', os = some o' ∧ ∃ a, v = .ref a ∧ ObAt K (cOut H c c' io (some i0) τ.length) H' (.sl i0) a o' := fun o ho => by
      obtain ⟨o', a, g1, g2, g3⟩ := out j0 o ho
      rw [hv] at g2
      cases g2
      refine ⟨o', g1, a, rfl, g3.ic ?_ fun b _ hc => cOut_sl kp rfl hj0 hc⟩
      rcases hn with hn | hn
      · rw [hn] at kp
        exact .inr (cOut_ic kp)
      · rw [g1] at hn
        exact .inl hn
    have fin : ∀ (t : Tv) (o o' : Ob), os = some o' → (∃ a, v = .ref a ∧ ObAt K (cOut H c c' io (some i0) τ.length) H' (.sl i0) a o') → (t = .own o' ∨ (t = .io o' ∧ ∃ o2, e[i0]? = some (some (.io o2)))) →
        Rel B K (cOut H c c' io (some i0) τ.length) (e.set i0 (some t)) τ σ H' := fun t o o' ho hw ht => by
      refine ⟨by rw [List.length_set]; exact R0.len, fun i t2 h => ?_, fun k r w h => ?_, fun b u h n => ?_, R0.bs, fun i o2 h => ?_, fun P q ht => (R0.tb P q ht).kp k2⟩
      · by_cases ij : i0 = i
        · subst ij
          rw [List.getElem?_set_self hi] at h
          cases h
          refine ⟨v, q1, ?_⟩
          rcases ht with rfl | ⟨rfl, _⟩ <;> exact hw
        · rw [List.getElem?_set_ne ij] at h
          obtain ⟨w, g1, g2⟩ := R0.sl i t2 h
          exact ⟨w, g1, g2.mv k2 (cOut_km kp fun i' z _ y => by cases z; cases y; exact ij rfl)⟩
      · exact ((R0.tm k r w h).kp k2 (cOut_km kp fun i' z _ y => by cases y)).envset
      · obtain ⟨g1, e1⟩ := R0.fr b u h n
        obtain ⟨g2, e2⟩ := k2.obj b u g1 (by rw [e1]; exact R0.bs b u h n)
        exact ⟨g2, e2.trans e1⟩
      · by_cases ij : i0 = i
        · subst ij
          rw [List.getElem?_set_self hi] at h
          cases h
          rcases ht with z | ⟨_, o3, z⟩
          · cases z
          · exact R0.io _ _ z
        · rw [List.getElem?_set_ne ij] at h
          exact R0.io i o2 h
    unfold putO at hp
    cases os with
    | none => cases hp
    | some o' =>
      simp only [q2] at hp
      simp only [q2] at h2
      cases t' with
      | val d => cases h2
      | own o =>
        cases h2
        cases hp
        obtain ⟨o2, g1, g2⟩ := wr o h1
        cases g1
        exact fin _ o o' rfl g2 (.inl rfl)
      | io o =>
        cases h2
        cases hp
        obtain ⟨o2, g1, g2⟩ := wr o h1
        cases g1
        exact fin _ o o' rfl g2 (.inr ⟨rfl, o, q2⟩)
theorem app_ok {W : WX} {F : Fn} {Q : VK} (hl : vs.length = rs.length) (R : Rel B K c e (τ ++ rs.zip vs) σ H)
    (h : (appF F io rs e).wp (fun r e' => ∀ v c' H', Rel B K c' e' (τ ++ [(r, v)]) σ H' → Q v H') (ErrW B K mg W σ τ)) : FnSem K mg F vs H Q (fun cls d H' => W cls d σ H') := by
  unfold appF at h
  split at h
  · exact h.elim
  · rename_i args ha
    split at h
    · rename_i hne
      have hne' : ∀ i ∈ looked io 0 rs, ioSlot io rs ≠ some i := fun i hi z => by
        have := List.all_eq_true.mp hne i hi
        simp [z] at this
      refine ⟨_, args, R.inOk hl ha hne', ?_⟩
      cases hF : F args with
      | bad => rw [hF] at h; exact h
      | er x os =>
        rw [hF] at h
        simp only at h
        split at h
        · rename_i hn
          cases hp : putO e (ioSlot io rs) os with
          | none => rw [hp] at h; exact h.elim
          | some e' =>
            rw [hp] at h
            intro cls d c' H' kp out q
            exact h cls d _ H' (R.back hl ha kp out hn hp) q
        · exact h.elim
      | ok t os =>
        rw [hF] at h
        simp only at h
        split at h
        · rename_i hn
          cases hp : putO e (ioSlot io rs) os with
          | none => rw [hp] at h; exact h.elim
          | some e' =>
            rw [hp] at h
            intro v c' H' kp out ht hno
            refine h v _ H' ((R.back hl ha kp out (hn.1.imp id And.right) hp).push ?_)
            refine TvOk.ic ?_ (fun b _ hc => cOut_tm kp hc) ht hno
            rcases hn.1 with z | z
            · rw [z] at kp
              exact .inr (cOut_ic kp)
            · exact .inl z.1
        · exact h.elim
    · exact h.elim
end
section
variable {X : Cx} {B : Bs} {W : WX}
theorem ve_call {k : Nat} {f : Addr} {fd : FuncData} {ps : List Str} {F : Fn} {x : Str} {a : Expr} {es : List Expr} {ms : M (List R)} {p pos : Pos} (io : Option Nat) (fa : Bool) (G : FnOk X.prog X.w X.K X.mg X.base (L2.CX X.prog X.w) k f fd ps (FnSem X.K X.mg F)) (hr : Room k X.A) (hg : Gl X x) (hm : X.mg x = some (.ref f))
    (hk : PySem.W.keepIn X.K (.ref f) = true) (hb : Binds X.K fd ps []) (tk : Takes X W) (ha : VA X B W (a :: es) ms) (hdb : (x == ("__debug__" : Str)) = false := by decide) (he : starEach (a :: es) X.env = (false, eval a X.env) :: starEach es X.env := by rfl)
    (hpl : (backTo pos (starEach es X.env)).any (·.1) = false := by rfl) : VE X B W (.Call (.Name x p) (a :: es) [] pos) (mCall F io fa ms) := by
  refine PE.imp (pe_callS G hr hg hm hk hb (fun σ => passAt tk σ) ha hdb he hpl) fun σ H Q h => ?_
  obtain ⟨c, e, τ, R, h⟩ := h
  refine ⟨c, e, τ, R, wp_mono (wp_bind h) (fun rs e1 h1 vs c1 H1 hl R1 => ?_) fun _ _ q => q⟩
  obtain ⟨rs', c2, e2, hl2, R2, h2⟩ := passL_ok hl R1 (wp_bind h1)
  exact app_ok (by rw [hl, hl2]) R2 h2
end
end VL


/-! VE: comprehensions. -/
namespace VL
open PySem PySem.Spec L2
open PyProof.Rows hiding St

/-! ### the names of a comprehension -/
def wipeE (e : En) : List Nat → En
  | [] => e
  | v :: vs => (wipeE e vs).set v none
/-- the names of a comprehension as they were -/
def back (e e' : En) : List Nat → En
  | [] => e'
  | v :: vs => (back e e' vs).set v ((e[v]?).join)
/-- data, or nothing -/
def plain (e : En) (v : Nat) : Bool :=
  match e[v]? with
  | some none => true
  | some (some (.val _)) => true
  | _ => false
theorem wipeE_length (e : En) : ∀ vs : List Nat, (wipeE e vs).length = e.length
  | [] => rfl
  | v :: vs => by unfold wipeE; rw [List.length_set, wipeE_length e vs]
theorem back_length (e e' : En) : ∀ vs : List Nat, (back e e' vs).length = e'.length
  | [] => rfl
  | v :: vs => by unfold back; rw [List.length_set, back_length e e' vs]
theorem wipeE_at {e : En} {i : Nat} : ∀ {vs : List Nat}, i ∉ vs → (wipeE e vs)[i]? = e[i]?
  | [], _ => rfl
  | v :: vs, h => by
    unfold wipeE
    rw [List.getElem?_set_ne fun z => h (by rw [z]; exact List.mem_cons_self)]
    exact wipeE_at fun z => h (List.mem_cons_of_mem _ z)
theorem wipe_at {σ : St} {i : Nat} : ∀ {vs : List Nat}, i ∉ vs → (wipe σ vs)[i]? = σ[i]?
  | [], _ => rfl
  | v :: vs, h => by
    unfold wipe
    rw [List.getElem?_set_ne fun z => h (by rw [z]; exact List.mem_cons_self)]
    exact wipe_at fun z => h (List.mem_cons_of_mem _ z)
theorem wipeE_in {e : En} {i : Nat} {t : Tv} : ∀ {vs : List Nat}, (wipeE e vs)[i]? = some (some t) → e[i]? = some (some t) ∧ i ∉ vs
  | [], h => ⟨h, (fun z => nomatch z)⟩
  | v :: vs, h => by
    unfold wipeE at h
    by_cases hi : v = i
    · subst hi
      by_cases hl : v < (wipeE e vs).length
      · rw [List.getElem?_set_self hl] at h; cases h
      · rw [List.getElem?_eq_none (by simpa using hl)] at h; cases h
    · rw [List.getElem?_set_ne hi] at h
      obtain ⟨h1, h2⟩ := wipeE_in h
      exact ⟨h1, by simp only [List.mem_cons, not_or]; exact ⟨fun z => hi z.symm, h2⟩⟩
theorem back_in {e e' : En} {i : Nat} {t : Tv} : ∀ {vs : List Nat}, (back e e' vs)[i]? = some (some t) → (i ∈ vs ∧ e[i]? = some (some t)) ∨ (i ∉ vs ∧ e'[i]? = some (some t))
  | [], h => .inr ⟨(fun z => nomatch z), h⟩
  | v :: vs, h => by
    unfold back at h
    by_cases hi : v = i
    · subst hi
      by_cases hl : v < (back e e' vs).length
      · rw [List.getElem?_set_self hl] at h
        refine .inl ⟨List.mem_cons_self, ?_⟩
        cases q : e[v]? with
        | none => rw [q] at h; cases h
        | some x => rw [q] at h; exact congrArg some (Option.some.inj h)
      · rw [List.getElem?_eq_none (by simpa using hl)] at h; cases h
    · rw [List.getElem?_set_ne hi] at h
      rcases back_in h with ⟨h1, h2⟩ | ⟨h1, h2⟩
      · exact .inl ⟨List.mem_cons_of_mem _ h1, h2⟩
      · exact .inr ⟨by simp only [List.mem_cons, not_or]; exact ⟨fun e => hi e.symm, h1⟩, h2⟩
theorem wipe_eq {σ σ2 : St} {sl vs : List Nat} (x : Eqx sl (wipe σ vs) σ2) (h : ∀ i ∈ sl, i ∈ vs) : wipe σ2 vs = wipe σ vs := by
  apply List.ext_getElem?
  intro i
  by_cases hi : i ∈ vs
  · have out : ∀ (ρ : St) (vs : List Nat), i ∈ vs → (wipe ρ vs)[i]? = if i < ρ.length then some none else none := by
      intro ρ vs
      induction vs with
      | nil => intro h; cases h
      | cons v vs ih =>
        intro h
        unfold wipe
        by_cases hv : v = i
        · subst hv
          by_cases hl : v < ρ.length
          · rw [if_pos hl, List.getElem?_set_self (by rw [wipe_length]; exact hl)]
          · rw [if_neg hl, List.getElem?_eq_none (by rw [List.length_set, wipe_length]; omega)]
        · rw [List.getElem?_set_ne hv]
          rcases List.mem_cons.mp h with z | z
          · exact absurd z.symm hv
          · exact ih z
    rw [out σ2 vs hi, out σ vs hi, x.1, wipe_length]
  · rw [wipe_at hi, x.2 i fun z => hi (h i z)]
section
variable {B : Bs} {K : PySem.W.Frag} {c : Col} {e e' : En} {τ : List (R × V)} {σ : St} {H : Hp} {vs : List Nat}
/-- what is borrowed is put by -/
def strip (τ : List (R × V)) : List (R × V) := τ.map fun p => match p with
  | (.bor _, _) => (.tmp (.val .none), .non)
  | q => q
theorem strip_length : (strip τ).length = τ.length := List.length_map ..
theorem strip_nb : NoB (strip τ) := fun p hp i z => by
  obtain ⟨q, _, rfl⟩ := List.mem_map.mp hp
  obtain ⟨r, v⟩ := q
  cases r <;> cases z
theorem Rel.strip {ρ : List (R × V)} (R : Rel B K c e (τ ++ ρ) σ H) : Rel B K c e (VL.strip τ ++ ρ) σ H := by
  refine ⟨R.len, R.sl, fun k r v h => ?_, R.fr, R.bs, R.io, R.tb⟩
  by_cases hk : k < τ.length
  · rw [List.getElem?_append_left (by rw [strip_length]; exact hk)] at h
    have q := fun r v h => R.tm k r v (by rw [List.getElem?_append_left hk]; exact h)
    unfold VL.strip at h
    rw [List.getElem?_map] at h
    simp only [Option.map_eq_some_iff] at h
    obtain ⟨⟨r', v'⟩, h1, h2⟩ := h
    cases r' with
    | tmp t => cases h2; exact q _ _ h1
    | bor i => cases h2; exact Im.non
  · rw [List.getElem?_append_right (by rw [strip_length]; omega), strip_length] at h
    exact R.tm k r v (by rw [List.getElem?_append_right (by omega)]; exact h)
theorem Rel.unstrip {c' : Col} {H0 H' : Hp} {e1 : En} {ρ : List (R × V)} (R0 : Rel B K c e τ σ H0) (h : Rel B K c' e1 (VL.strip τ ++ ρ) σ H') : Rel B K c' e1 (τ ++ ρ) σ H' := by
  refine ⟨h.len, h.sl, fun k r v hk => ?_, h.fr, h.bs, h.io, h.tb⟩
  by_cases hlt : k < τ.length
  · rw [List.getElem?_append_left hlt] at hk
    cases r with
    | bor i => exact R0.tm k (.bor i) v hk
    | tmp t => exact h.tm k _ v (by rw [List.getElem?_append_left (by rw [strip_length]; exact hlt)]; unfold VL.strip; rw [List.getElem?_map, hk]; rfl)
  · rw [List.getElem?_append_right (by omega)] at hk
    exact h.tm k r v (by rw [List.getElem?_append_right (by rw [strip_length]; omega), strip_length]; exact hk)
theorem Rel.wipe (R : Rel B K c e τ σ H) (nb : NoB τ) : Rel B K c (wipeE e vs) τ (L2.wipe σ vs) H := by
  refine ⟨by rw [wipeE_length, wipe_length]; exact R.len, fun i t h => ?_, fun k r v h => ?_, R.fr, R.bs, fun i o h => ?_, R.tb⟩
  · obtain ⟨h1, h2⟩ := wipeE_in h
    obtain ⟨v, h3, h4⟩ := R.sl i t h1
    exact ⟨v, by rw [wipe_at h2]; exact h3, h4⟩
  · have q := R.tm k r v h
    cases r with
    | tmp t => exact q
    | bor j => exact absurd rfl (nb _ (List.mem_of_getElem? h) j)
  · obtain ⟨h1, h2⟩ := wipeE_in h
    rw [wipe_at h2]
    exact R.io i o h1
/-- what stands in the names of the comprehension, ahead of it -/
def kept (e : En) (σ : St) : List Nat → List (R × V)
  | [] => []
  | v :: vs => match e[v]?, σ[v]? with
    | some (some (.val d)), some (some x) => (.tmp (.val d), x) :: kept e σ vs
    | _, _ => kept e σ vs
theorem kept_nb : ∀ vs, NoB (kept e σ vs)
  | [] => NoB.nil
  | v :: vs => by
    unfold kept
    split
    · intro p hp i z
      rcases List.mem_cons.mp hp with q | q
      · rw [q] at z; cases z
      · exact kept_nb vs p q i z
    · exact kept_nb vs
theorem kept_mem {i : Nat} {d : Dt} {x : V} (h1 : e[i]? = some (some (.val d))) (h2 : σ[i]? = some (some x)) : ∀ {vs : List Nat}, i ∈ vs → (R.tmp (.val d), x) ∈ kept e σ vs
  | v :: vs, h => by
    unfold kept
    rcases List.mem_cons.mp h with z | z
    · subst z
      rw [h1, h2]
      exact List.mem_cons_self
    · split
      · exact List.mem_cons_of_mem _ (kept_mem h1 h2 z)
      · exact kept_mem h1 h2 z
theorem Rel.keep (R : Rel B K c e τ σ H) : ∀ vs, Rel B K c e (τ ++ kept e σ vs) σ H := by
  intro vs
  refine ⟨R.len, R.sl, fun k r v h => ?_, R.fr, R.bs, R.io, R.tb⟩
  by_cases hk : k < τ.length
  · rw [List.getElem?_append_left hk] at h
    exact R.tm k r v h
  · rw [List.getElem?_append_right (by omega)] at h
    have hm := List.mem_of_getElem? h
    clear h
    induction vs with
    | nil => cases hm
    | cons v' vs ih =>
      unfold kept at hm
      split at hm
      · rename_i d x h1 h2
        rcases List.mem_cons.mp hm with z | z
        · cases z
          obtain ⟨x', q1, q2⟩ := R.sl v' _ h1
          rw [h2] at q1
          cases q1
          exact q2
        · exact ih z
      · exact ih hm
theorem Rel.unwipe {c' : Col} {H0 H' : Hp} {e1 : En} {τ' : List (R × V)} (R0 : Rel B K c e τ σ H0) (h : Rel B K c' (wipeE e1 vs) τ' (L2.wipe σ vs) H') (nb : NoB τ') (hk : Tm K (kept e σ vs) c' H') (hp : ∀ v ∈ vs, plain e v = true) : Rel B K c' (VL.back e e1 vs) τ' σ H' := by
  refine ⟨?_, fun i t hi => ?_, fun k r v hk => ?_, h.fr, h.bs, fun i o hi => ?_, h.tb⟩
  · have q := h.len
    rw [wipeE_length, wipe_length] at q
    rw [back_length, q]
  · rcases back_in hi with ⟨h1, h2⟩ | ⟨h1, h2⟩
    · have hpi := hp i h1
      unfold plain at hpi
      rw [h2] at hpi
      cases t with
      | val d =>
        obtain ⟨x, q1, _⟩ := R0.sl i _ h2
        exact ⟨x, q1, hk x d (kept_mem h2 q1 h1)⟩
      | own o => cases hpi
      | io o => cases hpi
    · obtain ⟨x, q1, q2⟩ := h.sl i t (by rw [wipeE_at h1]; exact h2)
      rw [wipe_at h1] at q1
      exact ⟨x, q1, q2⟩
  · have q := h.tm k r v hk
    cases r with
    | tmp t => exact q
    | bor j => exact absurd rfl (nb _ (List.mem_of_getElem? hk) j)
  · rcases back_in hi with ⟨h1, h2⟩ | ⟨h1, h2⟩
    · have hpi := hp i h1
      unfold plain at hpi
      rw [h2] at hpi
      cases hpi
    · have q := h.io i o (by rw [wipeE_at h1]; exact h2)
      rw [wipe_at h1] at q
      exact q
/-- a list or a dict of some colour is written -/
theorem Kp.wr {i : Cl} {a : Addr} {u o : HO} (hi : i ≠ .bs) (hc : c a = some i) (h : H a = some u) (hu : (∃ xs, u = .lst xs) ∨ ∃ es, u = .dK es) : Kp c H c (upd H a o) where
  obj := fun b w hb hcb => by
    have hne : b ≠ a := fun z => by
      rw [z, hc] at hcb
      rcases hcb with q | q
      · cases q
      · exact hi (Option.some.inj q)
    rw [upd_ne hne]
    exact ⟨hb, rfl⟩
  tup := fun b xs hb => by
    have hne : b ≠ a := fun z => by
      rw [z, h] at hb
      rcases hu with ⟨_, rfl⟩ | ⟨_, rfl⟩ <;> cases hb
    rw [upd_ne hne]
    exact hb
  frz := fun b w q hb => by
    have hne : b ≠ a := fun z => by
      rw [z, h] at hb
      rcases hu with ⟨_, rfl⟩ | ⟨_, rfl⟩ <;> cases hb
    rw [upd_ne hne]
    exact hb
theorem KM.wr {i j : Cl} {a : Addr} {o : HO} (hc : c a = some i) (hij : j ≠ i) : KM j j c H c (upd H a o) := fun b u hb h => by
  have hne : b ≠ a := fun z => by
    rw [z, hc] at hb
    exact hij (Option.some.inj hb).symm
  rw [upd_ne hne]
  exact ⟨h, hb⟩
/-- the last thing, a new list, gets one item more -/
theorem Rel.grow {acc : List Dt} {D : Addr} {v : V} {y : Dt} (h : Rel B K c e (τ ++ [(.tmp (.own (.lst acc)), .ref D)]) σ H) (im : Im K c H v y) :
    ∃ vs, H D = some (.lst vs) ∧ vs.length = acc.length ∧ Rel B K c e (τ ++ [(.tmp (.own (.lst (acc ++ [y]))), .ref D)]) σ (upd H D (.lst (vs ++ [v]))) := by
  obtain ⟨a, ea, hc, vs, h1, h2⟩ := h.top
  cases ea
  have kp : Kp c H c (upd H D (.lst (vs ++ [v]))) := .wr (by intro z; cases z) hc h1 (.inl ⟨_, rfl⟩)
  refine ⟨vs, h1, h2.length, (h.pop.kp kp fun j hj => .wr hc ?_).push ⟨D, rfl, hc, _, upd_same, (h2.snoc im).kp kp⟩⟩
  rcases hj with ⟨i, rfl, _⟩ | ⟨i, rfl, hi⟩
  · intro z; cases z
  · intro z; cases z; exact Nat.lt_irrefl _ hi
end

/-! ### the iterable of a comprehension: a list of one's own may be walked without coming to stand still -/
structure Src2 (K : PySem.W.Frag) (J : It) (T : Col → Hp → Prop) (ds : List Dt) : Prop where
  go : ∀ c H i, T c H → i < ds.length → J.go i H
  stop : ∀ c H i, T c H → ds.length ≤ i → J.stop i H
  yld : ∀ c H i x H', T c H → J.yld i H x H' → ∀ d, ds[i]? = some d → Nw K c H (.val d) x H'
theorem Src.two {K : PySem.W.Frag} {J : It} {υ : List (R × V)} {ds : List Dt} (s : Src K J υ ds) : Src2 K J (Tm K υ) ds := ⟨s.go, s.stop, s.yld⟩
/-- the list at a, of any colour -/
theorem src2_own {K : PySem.W.Frag} {a : Addr} {ds : List Dt} : Src2 K (Itl K a) (fun c H => ∃ vs, H a = some (.lst vs) ∧ Ims K c H vs ds) ds where
  go := fun c H i ⟨vs, h1, h2⟩ hi => ⟨_, _, .inl (.inl h1), List.getElem?_eq_getElem (by rw [h2.length]; exact hi)⟩
  stop := fun c H i ⟨vs, h1, h2⟩ hi => ⟨_, .inl (.inl h1), by rw [h2.length]; exact hi⟩
  yld := fun c H i x H' ⟨vs, h1, h2⟩ ⟨e, y⟩ d hd => by
    subst e
    obtain ⟨v, hv, im⟩ := h2.get hd
    have e2 := (y _ (.inl (.inl h1))).symm.trans hv
    cases e2
    exact .inl ⟨rfl, im⟩
/-- the items; the slot that is walked as it stands -/
abbrev It2 := List Dt × Option Nat
def tIc (B : Bs) (K : PySem.W.Frag) (mg : Str → Option Value) (W : WX) (m : M It2) : TI := fun σ H R => ∃ c e τ, Rel B K c e τ σ H ∧
  (m e).wp (fun ds e' => ∀ J υ c' H', (ds.2 = none → Src K J υ ds.1) → (∀ i, ds.2 = some i → υ = [] ∧ ∃ a, σ[i]? = some (some (.ref a)) ∧ J = Itl K a) → NoB υ → Rel B K c' e' (τ ++ υ) σ H' → R J H') (ErrW B K mg W σ τ)
def VIc (X : Cx) (B : Bs) (W : WX) (tg e : Expr) (m : M It2) : Prop := PI X tg e (tIc B X.K X.mg W m)
def still (m : M (List Dt)) : M It2 := m.bind fun ds => M.ret (ds, none)
section
variable {X : Cx} {B : Bs} {W : WX}
theorem VI.c {tg e : Expr} {m : M (List Dt)} (h : VI X B W tg e m) : VIc X B W tg e (still m) := by
  refine PI.imp h fun σ H Rr h => ?_
  obtain ⟨c, e, τ, R, h⟩ := h
  exact ⟨c, e, τ, R, wp_mono (wp_bind h) (fun ds e1 q J υ c' H' sr R' => q J υ c' H' (fun _ => sr) (fun i z => nomatch z) sr.nb R') fun _ _ q => q⟩
def lstOf : Option (Option Tv) → Option (List Dt)
  | some (some (.own (.lst ds))) => some ds
  | some (some (.io (.lst ds))) => some ds
  | _ => none
def iLook (m : M R) : M It2 := m.bind fun r => match r with
  | .tmp t => (frz (.tmp t)).bind fun d => (M.of (seqOf d)).bind fun ds => M.ret (ds, none)
  | .bor i => fun e => match lstOf e[i]? with
    | some ds => .ok (ds, some i) e
    | none => .bad
theorem vi_look {tg a : Expr} {m : M R} (h : VE X B W a m) : VIc X B W tg a (iLook m) := by
  refine PI.imp (pi_seq h) fun σ H Rr h => ?_
  obtain ⟨c, e, τ, r, h⟩ := h
  refine ⟨c, e, τ, r, wp_mono (wp_bind h) (fun r1 e1 q v c1 H1 R1 => ?_) fun _ _ q => q⟩
  cases r1 with
  | tmp t =>
    obtain ⟨d, e2, hf, q⟩ := wp_frz (wp_bind q)
    obtain ⟨c2, R2⟩ := R1.fzTop hf
    obtain ⟨ds, hd, q⟩ := wp_of (wp_bind q)
    have im : Im X.K c2 H1 v d := R2.top
    cases im with
    | lst hc h1 h2 => cases hd; exact .inl ⟨_, rfl, ⟨_, .inl (.inl h1)⟩, q _ _ c2 H1 (fun _ => src_list) (fun i z => nomatch z) NoB.val R2⟩
    | tup h1 h2 => cases hd; exact .inr ⟨_, rfl, ⟨_, h1⟩, q _ _ c2 H1 (fun _ => src_tup) (fun i z => nomatch z) NoB.val R2⟩
    | _ => cases hd
  | bor i =>
    simp only at q
    have h1 : σ[i]? = some (some v) := R1.top
    cases hl : lstOf e1[i]? with
    | none => rw [hl] at q; exact q.elim
    | some ds =>
      rw [hl] at q
      have own : ∃ a, v = .ref a ∧ ∃ vs, H1 a = some (.lst vs) := by
        unfold lstOf at hl
        split at hl
        · rename_i ds' he
          obtain ⟨v', q1, a, rfl, q2, vs, q3, _⟩ := R1.sl i _ he
          rw [h1] at q1; cases q1
          exact ⟨a, rfl, vs, q3⟩
        · rename_i ds' he
          obtain ⟨v', q1, a, rfl, q2, vs, q3, _⟩ := R1.sl i _ he
          rw [h1] at q1; cases q1
          exact ⟨a, rfl, vs, q3⟩
        · cases hl
      obtain ⟨a, rfl, vs, q3⟩ := own
      refine .inl ⟨a, rfl, ⟨vs, .inl (.inl q3)⟩, q _ [] c1 H1 (fun z => nomatch z) (fun j z => ?_) NoB.nil (by rw [List.append_nil]; exact R1.pop)⟩
      cases z
      exact ⟨rfl, a, h1, rfl⟩

/-! ### tests of a comprehension -/
def VTs (X : Cx) (B : Bs) (W : WX) (ifs : List Expr) (m : M Bool) : Prop := PTs X ifs (tT B X.K X.mg W m)
theorem PTs.imp {X : Cx} {e : List Expr} {t t' : TT} (h : PTs X e t) (w : ∀ σ H Q, t' σ H Q → t σ H Q) : PTs X e t' := ⟨fun pins s σ H Q I q => h.run pins s σ H Q I (w _ _ _ q)⟩
theorem vts_nil : VTs X B W [] (M.ret true) := PTs.imp pts_nil fun σ H Q h => by
  obtain ⟨c, e, τ, r, h⟩ := h
  exact h c H r
theorem vts_one {a : Expr} {m : M Bool} (h : VT X B W a m) : VTs X B W [a] m := pts_one h

/-! ### the comprehension -/
open Classical in
/-- the slot walked is as it was -/
noncomputable def asWas (oi : Option Nat) (ds : List Dt) (e : En) : Bool :=
  match oi with
  | none => true
  | some i => decide (lstOf e[i]? = some ds)
noncomputable def itL (g : Tg) (t : M Bool) (m : M R) (vs : List Nat) (oi : Option Nat) (all : List Dt) : List Dt → List Dt → En → Ev (List Dt)
  | [], acc, e => if asWas oi all e = true then .ok acc e else .bad
  | d :: ds, acc, e => if asWas oi all e = true then
      match g d (wipeE e vs) with
      | none => .bad
      | some e1 => match t e1 with
        | .ok true e2 => match m e2 with
          | .ok r e3 => match fz e3 r with
            | some (y, e4) => if small (acc.length + 1) = true then itL g t m vs oi all ds (acc ++ [y]) e4 else .bad
            | none => .bad
          | _ => .bad
        | .ok false e2 => itL g t m vs oi all ds acc e2
        | _ => .bad
    else .bad
noncomputable def mLc (mi : M It2) (g : Tg) (t : M Bool) (m : M R) (vs : List Nat) : M R := mi.bind fun ds e =>
  if (vs.all fun v => plain e v) = true ∧ (∀ i, ds.2 = some i → i ∉ vs) then
    match itL g t m vs ds.2 ds.1 ds.1 [] e with
    | .ok acc e' => .ok (.tmp (.own (.lst acc))) (back e e' vs)
    | _ => .bad
  else .bad

theorem NoB.app {τ υ : List (R × V)} (a : NoB τ) (b : NoB υ) : NoB (τ ++ υ) := fun p hp => (List.mem_append.mp hp).elim (a p) (b p)
theorem NoB.own {o : Ob} {v : V} : NoB [(R.tmp (.own o), v)] := fun p hp i z => by
  cases List.mem_singleton.mp hp
  cases z
abbrev W0 : WX := fun _ _ _ _ => False
theorem lc_ok {K : PySem.W.Frag} {mg : Str → Option Value} {mi : M It2} {g : Tg} {t : M Bool} {m : M R} {vs sl : List Nat} (hsl : ∀ i ∈ sl, i ∈ vs) (σ : St) (H : Hp) (Q : VK) (h : tV B K mg W (mLc mi g t m vs) σ H Q) :
    tLc (tIc B K mg W mi) (tG B K g sl) (tT B K mg W0 t) (tV B K mg W0 m) vs σ H Q := by
  obtain ⟨c, e, τ, R, h⟩ := h
  refine ⟨c, e, τ, R, wp_mono (wp_bind h) (fun ds e1 q J υ c1 H1 hsr hown nbu R1 D hD => ?_) fun _ _ q => q⟩
  split at q
  case isFalse => exact q.elim
  rename_i hcond
  obtain ⟨hpl, hni⟩ := hcond
  have hpl' : ∀ v ∈ vs, plain e1 v = true := List.all_eq_true.mp hpl
  cases hit : itL g t m vs ds.2 ds.1 ds.1 [] e1 with
  | er _ _ => rw [hit] at q; exact q.elim
  | bad => rw [hit] at q; exact q.elim
  | ok accF eF =>
    rw [hit] at q
    obtain ⟨τp, hτp⟩ : ∃ τp, τp = strip τ ++ (υ ++ kept e1 σ vs) := ⟨_, rfl⟩
    have nbp : NoB τp := by rw [hτp]; exact strip_nb.app (nbu.app (kept_nb vs))
    -- what the iterator leans on
    obtain ⟨T, hT, hTR⟩ : ∃ T : Col → Hp → Prop, Src2 K J T ds.1 ∧ ∀ (c2 : Col) (e2 : En) (ρ : List (VL.R × V)) (H2 : Hp), asWas ds.2 ds.1 e2 = true → Rel B K c2 (wipeE e2 vs) (τp ++ ρ) (wipe σ vs) H2 → T c2 H2 := by
      cases ho : ds.2 with
      | none =>
        refine ⟨Tm K υ, (hsr ho).two, fun c2 e2 ρ H2 _ r => ?_⟩
        rw [hτp] at r
        have r' : Rel B K c2 (wipeE e2 vs) (strip τ ++ υ) (wipe σ vs) H2 := by
          have : strip τ ++ (υ ++ kept e1 σ vs) ++ ρ = (strip τ ++ υ) ++ (kept e1 σ vs ++ ρ) := by simp [List.append_assoc]
          rw [this] at r
          exact r.pops
        exact r'.tms
      | some i =>
        obtain ⟨_, a, ha, rfl⟩ := hown i ho
        refine ⟨_, src2_own, fun c2 e2 ρ H2 hw r => ?_⟩
        have hw : lstOf e2[i]? = some ds.1 := by
          unfold asWas at hw
          simpa using hw
        have hi := hni i ho
        have fin : ∀ (o : Ob) (v : V), (∃ a', v = .ref a' ∧ ObAt K c2 H2 (.sl i) a' (.lst ds.1)) → (wipe σ vs)[i]? = some (some v) → ∃ ws, H2 a = some (.lst ws) ∧ Ims K c2 H2 ws ds.1 := fun o v hv hs => by
          rw [wipe_at hi, ha] at hs
          cases hs
          obtain ⟨a', e3, _, ws, g1, g2⟩ := hv
          cases e3
          exact ⟨ws, g1, g2⟩
        unfold lstOf at hw
        split at hw
        · rename_i ds' he
          cases hw
          obtain ⟨v, g1, g2⟩ := r.sl i _ (by rw [wipeE_at hi]; exact he)
          exact fin (.lst ds.1) v g2 g1
        · rename_i ds' he
          cases hw
          obtain ⟨v, g1, g2⟩ := r.sl i _ (by rw [wipeE_at hi]; exact he)
          exact fin (.lst ds.1) v g2 g1
        · cases hw
    have Rk : Rel B K c1 (wipeE e1 vs) τp (wipe σ vs) H1 := by
      have r := R1.keep vs
      rw [List.append_assoc] at r
      have r := r.strip
      rw [← hτp] at r
      exact r.wipe nbp
    obtain ⟨c2, R2⟩ := Rk.new (t := .own (.lst [])) (v := .ref D) (H' := upd H1 D (.lst [])) ⟨D, [], rfl, hD, rfl, .nil⟩
    refine ⟨fun i m2 H2 => m2 = ds.1.length - i ∧ ∃ c2 e2 acc, Rel B K c2 (wipeE e2 vs) (τp ++ [(.tmp (.own (.lst acc)), .ref D)]) (wipe σ vs) H2 ∧ itL g t m vs ds.2 ds.1 (ds.1.drop i) acc e2 = .ok accF eF, ⟨_, rfl, c2, e1, [], R2, hit⟩, ?_⟩
    rintro i m2 H2 ⟨rfl, c3, e3, acc, R3, hit3⟩
    have nbD : ∀ acc, NoB (τp ++ [(VL.R.tmp (.own (.lst acc)), V.ref D)]) := fun acc => nbp.app NoB.own
    by_cases hlt : i < ds.1.length
    · rw [List.drop_eq_getElem_cons hlt] at hit3
      unfold itL at hit3
      split at hit3
      case isFalse => cases hit3
      rename_i hw
      have tt := hTR c3 e3 _ H2 hw R3
      refine .inr ⟨hT.go c3 H2 i tt hlt, fun H' => ∃ c2 e2 acc, Rel B K c2 (wipeE e2 vs) (τp ++ [(.tmp (.own (.lst acc)), .ref D)]) (wipe σ vs) H' ∧ itL g t m vs ds.2 ds.1 (ds.1.drop (i + 1)) acc e2 = .ok accF eF, fun H' hN => ⟨ds.1.length - (i + 1), by omega, rfl, hN⟩, fun x H3 y => ?_⟩
      have n := hT.yld c3 H2 i x H3 tt y ds.1[i] (List.getElem?_eq_getElem hlt)
      obtain ⟨c4, R4, im⟩ := Nw.val R3 n
      cases hgd : g ds.1[i] (wipeE e3 vs) with
      | none => rw [hgd] at hit3; cases hit3
      | some e4 =>
        rw [hgd] at hit3
        refine ⟨c4, wipeE e3 vs, _, ds.1[i], e4, R4, nbD acc, im, hgd, fun σ5 c5 H5 R5 _ x5 => ⟨wipe_eq x5 hsl, c5, e4, _, R5, ?_⟩⟩
        have hσ : wipe σ5 vs = wipe σ vs := wipe_eq x5 hsl
        simp only at hit3
        cases hte : t e4 with
        | bad => rw [hte] at hit3; cases hit3
        | er x e5 => rw [hte] at hit3; cases hit3
        | ok b e5 =>
          rw [hte] at hit3
          cases b with
          | false =>
            intro c6 H6 R6
            rw [if_neg Bool.false_ne_true]
            refine ⟨c6, e5, acc, ?_, hit3⟩
            rw [← hσ]
            exact R6.wipe (nbD acc)
          | true =>
            intro c6 H6 R6
            rw [if_pos rfl]
            refine ⟨c6, e5, _, R6, ?_⟩
            simp only at hit3
            cases hme : m e5 with
            | bad => rw [hme] at hit3; cases hit3
            | er x e6 => rw [hme] at hit3; cases hit3
            | ok r e6 =>
              rw [hme] at hit3
              intro v c7 H7 R7
              simp only at hit3
              cases hfz : fz e6 r with
              | none => rw [hfz] at hit3; cases hit3
              | some p =>
                obtain ⟨y', e7⟩ := p
                rw [hfz] at hit3
                simp only at hit3
                split at hit3
                case isFalse => cases hit3
                rename_i hsm
                obtain ⟨c8, R8⟩ := R7.fzTop hfz
                obtain ⟨ws, g1, g2, R9⟩ := R8.pop.grow R8.top
                refine ⟨ws, g1, ?_, c8, e7, acc ++ [y'], ?_, hit3⟩
                · rw [g2]
                  exact Nat.lt_of_lt_of_le (Nat.lt_succ_self _) (small_of hsm)
                · rw [← hσ]
                  exact R9.wipe (nbD _)
    · rw [List.drop_eq_nil_of_le (Nat.le_of_not_lt hlt)] at hit3
      unfold itL at hit3
      split at hit3
      case isFalse => cases hit3
      rename_i hw
      cases hit3
      refine .inl ⟨hT.stop c3 H2 i (hTR c3 _ _ H2 hw R3) (Nat.le_of_not_lt hlt), ?_⟩
      have hk : Tm K (kept e1 σ vs) c3 H2 := by
        have r := R3.pop
        rw [hτp, ← List.append_assoc] at r
        exact r.tms
      have R4 := Rel.unwipe (R1.pops) R3 (nbD _) hk hpl'
      rw [hτp] at R4
      obtain ⟨c5, R5⟩ := R4.slide
      exact q (.ref D) c5 H2 (R1.pops.unstrip R5)
theorem ve_lc {elt tg iter : Expr} {ifs : List Expr} {scope : Scope} {own : List (Str × Nat)} {pos : Pos} {mi : M It2} {g : Tg} {t : M Bool} {m : M R} {sl : List Nat} (hc : X.calm = true) (hN : X.N.Nodup) (hi : VIc X B W tg iter mi) (ok : BlkOk X.N X.env.scope scope own)
    (hg : ∀ (s : Shared) (H : Hp) (C : Addr) (cl : List (Str × Addr)) (fp : List Addr), VG (X.blk s H scope (compEnvC scope cl C X.env) fp) B tg g sl) (hsl : ∀ i ∈ sl, i ∈ own.map (·.2))
    (ht : ∀ (s : Shared) (H : Hp) (C : Addr) (cl : List (Str × Addr)) (fp : List Addr), VTs (X.blk s H scope (compEnvC scope cl C X.env) fp) B W0 ifs t)
    (he : ∀ (s : Shared) (H : Hp) (C : Addr) (cl : List (Str × Addr)) (fp : List Addr), VE (X.blk s H scope (compEnvC scope cl C X.env) fp) B W0 elt m) (hs : ∀ x, foldedSetIterable iter X.env x = pure x := by intro _; rfl) :
    VE X B W (.ListComp elt [⟨tg, iter, ifs, 0⟩] scope pos) (mLc mi g t m (own.map (·.2))) :=
  PE.imp (pe_lc (g := tG B X.K g sl) (tt := tT B X.K X.mg W0 t) (te := tV B X.K X.mg W0 m) hc hN hi ok hg ht he hs) (lc_ok hsl)
/-- name = [..] on one line -/
theorem vs_setLc {i : Nat} {y : Str} {py : Pos} {elt tg iter : Expr} {ifs : List Expr} {scope : Scope} {own : List (Str × Nat)} {pos spos : Pos} {mi : M It2} {g : Tg} {t : M Bool} {m : M R} {sl : List Nat} (hc : X.calm = true) (hN : X.N.Nodup) (hy : X.N[i]? = some y) (hyl : X.env.scope.names.lookup y = some .local)
    (hsw : swapsWith (.ListComp elt [⟨tg, iter, ifs, 0⟩] scope pos) (some (.Name y py)) spos.line X.env = pure true) (hi : VIc X B W tg iter mi) (ok : BlkOk X.N X.env.scope scope own)
    (hg : ∀ (s : Shared) (H : Hp) (C : Addr) (cl : List (Str × Addr)) (fp : List Addr), VG (X.blk s H scope (compEnvC scope cl C X.env) fp) B tg g sl) (hsl : ∀ i ∈ sl, i ∈ own.map (·.2))
    (ht : ∀ (s : Shared) (H : Hp) (C : Addr) (cl : List (Str × Addr)) (fp : List Addr), VTs (X.blk s H scope (compEnvC scope cl C X.env) fp) B W0 ifs t)
    (he : ∀ (s : Shared) (H : Hp) (C : Addr) (cl : List (Str × Addr)) (fp : List Addr), VE (X.blk s H scope (compEnvC scope cl C X.env) fp) B W0 elt m) (hs : ∀ x, foldedSetIterable iter X.env x = pure x := by intro _; rfl) :
    VS X B W (.Assign [.Name y py] (.ListComp elt [⟨tg, iter, ifs, 0⟩] scope pos) spos) (sSet i (mLc mi g t m (own.map (·.2)))) := by
  refine PS.imp (ps_setLc (g := tG B X.K g sl) (tt := tT B X.K X.mg W0 t) (te := tV B X.K X.mg W0 m) hc hN hy hyl hsw hi ok hg ht he hs) fun D σ H h => ?_
  obtain ⟨c, e, τ, r, nb, h⟩ := h
  refine lc_ok hsl σ H _ ⟨c, e, τ, r, wp_mono (wp_run h) (fun r1 e1 q v c1 H1 R1 => ?_) fun _ _ q => q σ⟩
  cases hsto : sto i r1 e1 with
  | none => rw [hsto] at q; exact q.elim
  | some e2 =>
    rw [hsto] at q
    obtain ⟨c2, R2⟩ := R1.store nb hsto
    exact q _ c2 H1 R2
end
end VL


/-! VF: operators, comparisons, items, built-in functions, methods of lists. -/
namespace VL
open PySem PySem.Spec L2
open PyProof.Rows hiding St

theorem OpR.or {X : Cx} {f : Value → Value → Sem Value} {r r' : R2} (h : OpR X f r) (h' : OpR X f r') : OpR X f (fun x y H Q => r x y H Q ∨ r' x y H Q) := by
  intro pins s σ H x y v u Q I rx ry q
  rcases q with q | q
  · exact h pins s σ H x y v u Q I rx ry q
  · exact h' pins s σ H x y v u Q I rx ry q
theorem CallR.or {X : Cx} {f : Value} {r r' : List V → Hp → VK → Prop} (h : CallR X f r) (h' : CallR X f r') : CallR X f (fun x H Q => r x H Q ∨ r' x H Q) := by
  intro pins s σ H xs us Q I rx q
  rcases q with q | q
  · exact h pins s σ H xs us Q I rx q
  · exact h' pins s σ H xs us Q I rx q
section
variable {K : PySem.W.Frag} {c : Col} {H : Hp}
theorem Nw.sc {v : V} {d : Dt} (h : Im K c H v d) : Nw K c H (.val d) v H := .inl ⟨rfl, h⟩
mutual
theorem Im.dp : ∀ {v : V} (d : Dt), PyData.canLay0 d = true → Im K c H v d → Dp K H v d
  | _, .none, _, .non => .non
  | _, .bool _, _, .bl b => .bl b
  | _, .int _, _, .int i => .int i
  | _, .str _, _, .str x => .str x
  | _, .tuple ds, e, .tup h hs => .tup h (Ims.dp ds (by simpa [PyData.canLay0] using e) hs)
  | _, .list ds, e, .lst hc h hs => .lst (.inl (.inl h)) (Ims.dp ds (by simpa [PyData.canLay0] using e) hs)
  | _, .dict es, e, _ => by simp [PyData.canLay0] at e
theorem Ims.dp : ∀ {vs : List V} (ds : List Dt), PyData.canLayAll0 ds = true → Ims K c H vs ds → DpAll K H vs ds
  | _, [], _, .nil => .nil
  | _, d :: ds, e, .cons h hs => by
    have e' : PyData.canLay0 d = true ∧ PyData.canLayAll0 ds = true := by simpa [PyData.canLayAll0] using e
    exact .cons (Im.dp d e'.1 h) (Ims.dp ds e'.2 hs)
end
theorem Vw.dp {v : V} {d : Dt} (e : PyData.canLay0 d = true) (h : Vw K c H v d) : Dp K H v d := by
  cases h with
  | im h => exact Im.dp d e h
  | lst h1 h2 => exact .lst (.inl (.inl h1)) (Ims.dp _ (by simpa [PyData.canLay0] using e) h2)
  | dic h1 h2 => simp [PyData.canLay0] at e
end

/-! ### int, tuple, list: + - * // % ** -/
def fAdd : Dt → Dt → Option Tv
  | .int i, .int j => some (.val (.int (i + j)))
  | .tuple xs, .tuple ys => if small (xs.length + ys.length) = true then some (.val (.tuple (xs ++ ys))) else none
  | .list xs, .list ys => if small (xs.length + ys.length) = true then some (.own (.lst (xs ++ ys))) else none
  | _, _ => none
abbrev rAdd (K : PySem.W.Frag) : R2 := fun x y H Q => (rI0 fun i j => .int (i + j)) x y H Q ∨ ((rCatA K) x y H Q ∨ rCat x y H Q)
theorem op_addV {X : Cx} : OpR X (binaryOp .Add) (rAdd X.K) := OpR.or op_add (OpR.or op_catA op_cat)
theorem fAdd_ok {K : PySem.W.Frag} : Op2 K (rAdd K) fAdd := by
  intro c H x y d1 d2 t Q h1 h2 hf q
  unfold fAdd at hf
  split at hf
  · cases hf
    cases h1.int
    cases h2.int
    exact .inl ⟨_, _, rfl, rfl, q _ H (.sc (.int _))⟩
  · split at hf
    · rename_i xs ys hz
      cases hf
      obtain ⟨a, vs, rfl, g1, i1⟩ := h1.tuple
      obtain ⟨b, ws, rfl, g2, i2⟩ := h2.tuple
      refine .inr (.inl ⟨a, b, vs, ws, rfl, rfl, g1, g2, by rw [i1.length, i2.length]; exact small_of hz, fun e => ?_, fun _ e => ?_, fun _ _ p hp => ?_⟩)
      · subst e
        cases i1
        exact q _ H (.sc (.tup g2 i2))
      · subst e
        cases i2
        rw [List.append_nil] at q
        exact q _ H (.sc (.tup g1 i1))
      · exact q _ _ (.inr ⟨p, _, _, rfl, rfl, hp, rfl, i1.append i2⟩)
    · cases hf
  · split at hf
    · rename_i xs ys hz
      cases hf
      obtain ⟨a, vs, rfl, g1, i1⟩ := h1.list
      obtain ⟨b, ws, rfl, g2, i2⟩ := h2.list
      exact .inr (.inr ⟨a, b, vs, ws, rfl, rfl, g1, g2, by rw [i1.length, i2.length]; exact small_of hz, fun p hp => q _ _ ⟨p, _, rfl, hp, rfl, i1.append i2⟩⟩)
    · cases hf
  · cases hf
def fSub : Dt → Dt → Option Tv
  | .int i, .int j => some (.val (.int (i - j)))
  | _, _ => none
theorem fSub_ok {K : PySem.W.Frag} : Op2 K (rI0 fun i j => .int (i - j)) fSub := by
  intro c H x y d1 d2 t Q h1 h2 hf q
  unfold fSub at hf
  split at hf
  · cases hf
    cases h1.int
    cases h2.int
    exact ⟨_, _, rfl, rfl, q _ H (.sc (.int _))⟩
  · cases hf
def sm64 (i : Int) : Bool := decide (-(2 ^ 64) < i) && decide (i < 2 ^ 64)
theorem sm64_of {i : Int} (h : sm64 i = true) : -(2 ^ 64) < i ∧ i < 2 ^ 64 := by
  unfold sm64 at h
  rw [Bool.and_eq_true] at h
  exact ⟨of_decide_eq_true h.1, of_decide_eq_true h.2⟩
def fMul : Dt → Dt → Option Tv
  | .int i, .int j => if (sm64 i || sm64 j) = true then some (.val (.int (i * j))) else none
  | .list xs, .int k => if big62 k = true ∧ small (xs.length * k.toNat) = true then some (.own (.lst (List.replicate k.toNat xs).flatten)) else none
  | .tuple xs, .int k => if xs ≠ [] ∧ 2 ≤ k ∧ k ≤ 1000 ∧ xs.length ≤ 1000 then some (.val (.tuple (List.replicate k.toNat xs).flatten)) else none
  | _, _ => none
theorem Ims.rep {K : PySem.W.Frag} {c : Col} {H : Hp} {vs : List V} {ds : List Dt} (h : Ims K c H vs ds) : ∀ n : Nat, Ims K c H (List.replicate n vs).flatten (List.replicate n ds).flatten
  | 0 => .nil
  | n + 1 => by
    rw [List.replicate_succ, List.replicate_succ, List.flatten_cons, List.flatten_cons]
    exact h.append (h.rep n)
abbrev rMulV (K : PySem.W.Frag) : R2 := fun x y H Q => (rI CMul fun i j => .int (i * j)) x y H Q ∨ (rRep x y H Q ∨ (rRepT K) x y H Q)
theorem op_mulV {X : Cx} : OpR X (binaryOp .Mult) (rMulV X.K) := OpR.or op_mul (OpR.or op_rep op_repT)
theorem fMul_ok {K : PySem.W.Frag} : Op2 K (rMulV K) fMul := by
  intro c H x y d1 d2 t Q h1 h2 hf q
  unfold fMul at hf
  split at hf
  · split at hf
    · rename_i i j hz
      cases hf
      cases h1.int
      cases h2.int
      rw [Bool.or_eq_true] at hz
      exact .inl ⟨_, _, rfl, rfl, hz.imp sm64_of sm64_of, q _ H (.sc (.int _))⟩
    · cases hf
  · split at hf
    · rename_i xs k hz
      cases hf
      cases h2.int
      obtain ⟨a, vs, rfl, g1, i1⟩ := h1.list
      obtain ⟨b1, b2⟩ := big62_of hz.1
      exact .inr (.inl ⟨a, k, vs, rfl, rfl, g1, by omega, by omega, by rw [i1.length]; exact small_of hz.2, fun p hp => q _ _ ⟨p, _, rfl, hp, rfl, i1.rep _⟩⟩)
    · cases hf
  · split at hf
    · rename_i xs k hz
      cases hf
      cases h2.int
      obtain ⟨a, vs, rfl, g1, i1⟩ := h1.tuple
      refine .inr (.inr ⟨a, k, vs, rfl, rfl, g1, fun e => ?_, hz.2.1, hz.2.2.1, by rw [i1.length]; exact hz.2.2.2, fun p hp => q _ _ (.inr ⟨p, _, _, rfl, rfl, hp, rfl, i1.rep _⟩)⟩)
      subst e
      cases i1
      exact hz.1 rfl
    · cases hf
  · cases hf
def fDiv : Dt → Dt → Option Tv
  | .int i, .int j => if 0 < j ∧ j < 1073741824 then some (.val (.int (i / j))) else none
  | _, _ => none
theorem fDiv_ok {K : PySem.W.Frag} : Op2 K (rI CDiv fun i j => .int (i / j)) fDiv := by
  intro c H x y d1 d2 t Q h1 h2 hf q
  unfold fDiv at hf
  split at hf
  · split at hf
    · rename_i hz
      cases hf
      cases h1.int
      cases h2.int
      exact ⟨_, _, rfl, rfl, hz, q _ H (.sc (.int _))⟩
    · cases hf
  · cases hf
def fMod : Dt → Dt → Option Tv
  | .int i, .int j => if 0 < j then some (.val (.int (i % j))) else none
  | _, _ => none
theorem fMod_ok {K : PySem.W.Frag} : Op2 K (rI (fun _ j => 0 < j) fun i j => .int (i % j)) fMod := by
  intro c H x y d1 d2 t Q h1 h2 hf q
  unfold fMod at hf
  split at hf
  · split at hf
    · rename_i hz
      cases hf
      cases h1.int
      cases h2.int
      exact ⟨_, _, rfl, rfl, hz, q _ H (.sc (.int _))⟩
    · cases hf
  · cases hf
def fPow : Dt → Dt → Option Tv
  | .int i, .int j => if 0 ≤ j ∧ j ≤ 1000000 ∧ i.natAbs < 2 ^ 64 then some (.val (.int (i ^ j.toNat))) else none
  | _, _ => none
theorem fPow_ok {K : PySem.W.Frag} : Op2 K (rI CPow fun i j => .int (i ^ j.toNat)) fPow := by
  intro c H x y d1 d2 t Q h1 h2 hf q
  unfold fPow at hf
  split at hf
  · split at hf
    · rename_i hz
      cases hf
      cases h1.int
      cases h2.int
      exact ⟨_, _, rfl, rfl, hz, q _ H (.sc (.int _))⟩
    · cases hf
  · cases hf
def fNeg : Dt → Option Tv
  | .int i => some (.val (.int (-i)))
  | _ => none
theorem fNeg_ok {K : PySem.W.Frag} : Op1 K (rU fun i => .int (-i)) fNeg := by
  intro c H x d1 t Q h1 hf q
  unfold fNeg at hf
  split at hf
  · cases hf
    cases h1.int
    exact ⟨_, rfl, q _ H (.sc (.int _))⟩
  · cases hf

/-! ### comparisons -/
def fCmp (p : Int → Int → Bool) : Dt → Dt → Option Tv
  | .int i, .int j => some (.val (.bool (p i j)))
  | _, _ => none
theorem fCmp_ok {K : PySem.W.Frag} {p : Int → Int → Bool} : Op2 K (rI0 fun i j => .bl (p i j)) (fCmp p) := by
  intro c H x y d1 d2 t Q h1 h2 hf q
  unfold fCmp at hf
  split at hf
  · cases hf
    cases h1.int
    cases h2.int
    exact ⟨_, _, rfl, rfl, q _ H (.sc (.bl _))⟩
  · cases hf
abbrev fLt := fCmp fun i j => decide (i < j)
abbrev fLe := fCmp fun i j => decide (i ≤ j)
abbrev fGt := fCmp fun i j => decide (j < i)
abbrev fGe := fCmp fun i j => decide (j ≤ i)
def fEq (d e : Dt) : Option Tv := if (SeqAt.shaped d && SeqAt.shaped e) = true then some (.val (.bool (PyData.eqv d e))) else none
def fNe (d e : Dt) : Option Tv := if (SeqAt.shaped d && SeqAt.shaped e) = true then some (.val (.bool (!PyData.eqv d e))) else none
theorem fEq_ok {K : PySem.W.Frag} : Op2 K (rEqD K) fEq := by
  intro c H x y d1 d2 t Q h1 h2 hf q
  unfold fEq at hf
  split at hf
  · rename_i hz
    rw [Bool.and_eq_true] at hz
    cases hf
    exact ⟨d1, d2, h1.dp (SeqAt.canLay_of_shaped hz.1), h2.dp (SeqAt.canLay_of_shaped hz.2), hz.1, hz.2, q _ H (.sc (.bl _))⟩
  · cases hf
theorem fNe_ok {K : PySem.W.Frag} : Op2 K (rNeD K) fNe := by
  intro c H x y d1 d2 t Q h1 h2 hf q
  unfold fNe at hf
  split at hf
  · rename_i hz
    rw [Bool.and_eq_true] at hz
    cases hf
    exact ⟨d1, d2, h1.dp (SeqAt.canLay_of_shaped hz.1), h2.dp (SeqAt.canLay_of_shaped hz.2), hz.1, hz.2, q _ H (.sc (.bl _))⟩
  · cases hf
/-- x in a tuple -/
def rInT (K : PySem.W.Frag) (neg : Bool) : R2 := fun x y H Q => ∃ d ds, Dp K H x d ∧ Dp K H y (.tuple ds) ∧ SeqAt.shaped d = true ∧ SeqAt.shaped (.tuple ds) = true ∧ Q (.bl (if neg = true then !ds.any fun z => PyData.eqv z d else ds.any fun z => PyData.eqv z d)) H
theorem op_inT {X : Cx} (hu : X.A.units + 65 < cLine) : OpR X (compareOp .In) (rInT X.K false) := by
  rintro pins s σ H x y v u Q I rx ry ⟨d, ds, hd, he, sd, se, q⟩
  obtain ⟨_, r1⟩ := Dp.reads I d x v hd rx
  obtain ⟨_, r2⟩ := Dp.reads I (.tuple ds) y u he ry
  exact SeqAt.in_tuple_reads r2 r1 (SeqAt.canLay_of_shaped se) (SeqAt.canLay_of_shaped sd) (room_in_shaped sd hu) ⟨.bl _, H, I, rfl, q⟩
theorem op_notInT {X : Cx} (hu : X.A.units + 65 < cLine) : OpR X (compareOp .NotIn) (rInT X.K true) := by
  rintro pins s σ H x y v u Q I rx ry ⟨d, ds, hd, he, sd, se, q⟩
  obtain ⟨_, r1⟩ := Dp.reads I d x v hd rx
  obtain ⟨_, r2⟩ := Dp.reads I (.tuple ds) y u he ry
  exact SeqAt.notIn_tuple_reads r2 r1 (SeqAt.canLay_of_shaped se) (SeqAt.canLay_of_shaped sd) (room_in_shaped sd hu) ⟨.bl _, H, I, rfl, q⟩
def isIn (d : Dt) (ds : List Dt) : Bool := ds.any fun z => PyData.eqv z d
def fIn (d e : Dt) : Option Tv := match e with
  | .list ds => if (SeqAt.shaped d && SeqAt.shaped e) = true then some (.val (.bool (isIn d ds))) else none
  | .tuple ds => if (SeqAt.shaped d && SeqAt.shaped e) = true then some (.val (.bool (isIn d ds))) else none
  | _ => none
def fNotIn (d e : Dt) : Option Tv := match e with
  | .list ds => if (SeqAt.shaped d && SeqAt.shaped e) = true then some (.val (.bool (!isIn d ds))) else none
  | .tuple ds => if (SeqAt.shaped d && SeqAt.shaped e) = true then some (.val (.bool (!isIn d ds))) else none
  | _ => none
abbrev rInV (K : PySem.W.Frag) : R2 := fun x y H Q => (rInD K) x y H Q ∨ (rInT K false) x y H Q
abbrev rNotInV (K : PySem.W.Frag) : R2 := fun x y H Q => (rNotInD K) x y H Q ∨ (rInT K true) x y H Q
theorem op_inV {X : Cx} (hu : X.A.units + 65 < cLine) : OpR X (compareOp .In) (rInV X.K) := OpR.or (op_inD hu) (op_inT hu)
theorem op_notInV {X : Cx} (hu : X.A.units + 65 < cLine) : OpR X (compareOp .NotIn) (rNotInV X.K) := OpR.or (op_notInD hu) (op_notInT hu)
theorem fIn_ok {K : PySem.W.Frag} : Op2 K (rInV K) fIn := by
  intro c H x y d1 d2 t Q h1 h2 hf q
  unfold fIn at hf
  split at hf
  · split at hf
    · rename_i ds hz
      rw [Bool.and_eq_true] at hz
      cases hf
      exact .inl ⟨d1, ds, h1.dp (SeqAt.canLay_of_shaped hz.1), h2.dp (SeqAt.canLay_of_shaped hz.2), hz.1, hz.2, q _ H (.sc (.bl _))⟩
    · cases hf
  · split at hf
    · rename_i ds hz
      rw [Bool.and_eq_true] at hz
      cases hf
      exact .inr ⟨d1, ds, h1.dp (SeqAt.canLay_of_shaped hz.1), h2.dp (SeqAt.canLay_of_shaped hz.2), hz.1, hz.2, q _ H (.sc (.bl _))⟩
    · cases hf
  · cases hf
theorem fNotIn_ok {K : PySem.W.Frag} : Op2 K (rNotInV K) fNotIn := by
  intro c H x y d1 d2 t Q h1 h2 hf q
  unfold fNotIn at hf
  split at hf
  · split at hf
    · rename_i ds hz
      rw [Bool.and_eq_true] at hz
      cases hf
      exact .inl ⟨d1, ds, h1.dp (SeqAt.canLay_of_shaped hz.1), h2.dp (SeqAt.canLay_of_shaped hz.2), hz.1, hz.2, q _ H (.sc (.bl _))⟩
    · cases hf
  · split at hf
    · rename_i ds hz
      rw [Bool.and_eq_true] at hz
      cases hf
      exact .inr ⟨d1, ds, h1.dp (SeqAt.canLay_of_shaped hz.1), h2.dp (SeqAt.canLay_of_shaped hz.2), hz.1, hz.2, q _ H (.sc (.bl _))⟩
    · cases hf
  · cases hf
/-- is None -/
def isN : Dt → Bool
  | .none => true
  | _ => false
theorem Vw.isN {K : PySem.W.Frag} {c : Col} {H : Hp} {v : V} {d : Dt} (h : Vw K c H v d) : decide (v = .non) = isN d := by
  cases h with
  | im h => cases h <;> rfl
  | lst _ _ => rfl
  | dic _ _ => rfl
def fIsN : Dt → Dt → Option Tv := fun d e => match e with
  | .none => some (.val (.bool (isN d)))
  | _ => none
def fNotN : Dt → Dt → Option Tv := fun d e => match e with
  | .none => some (.val (.bool (!isN d)))
  | _ => none
theorem fIsN_ok {K : PySem.W.Frag} : Op2 K (fun x y H Q => y = .non ∧ Q (.bl (decide (x = .non))) H) fIsN := by
  intro c H x y d1 d2 t Q h1 h2 hf q
  unfold fIsN at hf
  split at hf
  · cases hf
    refine ⟨h2.none, ?_⟩
    rw [h1.isN]
    exact q _ H (.sc (.bl _))
  · cases hf
theorem fNotN_ok {K : PySem.W.Frag} : Op2 K (fun x y H Q => y = .non ∧ Q (.bl (!decide (x = .non))) H) fNotN := by
  intro c H x y d1 d2 t Q h1 h2 hf q
  unfold fNotN at hf
  split at hf
  · cases hf
    refine ⟨h2.none, ?_⟩
    rw [h1.isN]
    exact q _ H (.sc (.bl _))
  · cases hf

/-! ### items -/
def fIx : Dt → Dt → Option Tv
  | .list ds, .int i => (atI ds i).map .val
  | .tuple ds, .int i => (atI ds i).map .val
  | _, _ => none
abbrev rIxV (K : PySem.W.Frag) : R2 := fun x y H Q => (rIxL K) x y H Q ∨ (rIxT K) x y H Q
theorem ix_V {X : Cx} : IxR X (rIxV X.K) := ix_list.or ix_tup
theorem Ims.atI {K : PySem.W.Frag} {c : Col} {H : Hp} {vs : List V} {ds : List Dt} {i : Int} {d : Dt} (h : Ims K c H vs ds) (e : L2.atI ds i = some d) : ∃ v, L2.atI vs i = some v ∧ Im K c H v d := by
  unfold L2.atI at e ⊢
  rw [h.length]
  cases q : ixN ds.length i with
  | none => rw [q] at e; cases e
  | some j =>
    rw [q] at e
    exact h.get e
theorem fIx_ok {K : PySem.W.Frag} : Op2 K (rIxV K) fIx := by
  intro c H x y d1 d2 t Q h1 h2 hf q
  unfold fIx at hf
  split at hf
  · simp only [Option.map_eq_some_iff] at hf
    obtain ⟨d, hd, rfl⟩ := hf
    cases h2.int
    obtain ⟨a, vs, rfl, g1, i1⟩ := h1.list
    obtain ⟨v, hv, im⟩ := i1.atI hd
    exact .inl ⟨a, vs, _, v, rfl, rfl, .inl (.inl g1), hv, q _ H (.sc im)⟩
  · simp only [Option.map_eq_some_iff] at hf
    obtain ⟨d, hd, rfl⟩ := hf
    cases h2.int
    obtain ⟨a, vs, rfl, g1, i1⟩ := h1.tuple
    obtain ⟨v, hv, im⟩ := i1.atI hd
    exact .inr ⟨a, vs, _, v, rfl, rfl, g1, hv, q _ H (.sc im)⟩
  · cases hf

/-! ### built-in functions -/
def fLen : List Dt → Option Tv
  | [.list ds] => some (.val (.int ds.length))
  | [.tuple ds] => some (.val (.int ds.length))
  | _ => none
theorem fLen_ok {K : PySem.W.Frag} : OpN K (fun xs H Q => ∃ p ys, xs = [.ref p] ∧ (SqL K H p ys ∨ SqT K H p ys) ∧ Q (.int ys.length) H) fLen := by
  intro c H xs ds t Q h1 hf q
  unfold fLen at hf
  split at hf
  · cases hf
    cases h1 with
    | cons w1 w2 =>
      cases w2
      obtain ⟨a, vs, rfl, g1, i1⟩ := w1.list
      exact ⟨a, vs, rfl, .inl (.inl (.inl g1)), by rw [i1.length]; exact q _ H (.sc (.int _))⟩
  · cases hf
    cases h1 with
    | cons w1 w2 =>
      cases w2
      obtain ⟨a, vs, rfl, g1, i1⟩ := w1.tuple
      exact ⟨a, vs, rfl, .inr g1, by rw [i1.length]; exact q _ H (.sc (.int _))⟩
  · cases hf
def fAbs : List Dt → Option Tv
  | [.int i] => some (.val (.int (if i < 0 then -i else i)))
  | _ => none
theorem fAbs_ok {K : PySem.W.Frag} : OpN K (fun xs H Q => ∃ i, xs = [.int i] ∧ Q (.int (if i < 0 then -i else i)) H) fAbs := by
  intro c H xs ds t Q h1 hf q
  unfold fAbs at hf
  split at hf
  · cases hf
    cases h1 with
    | cons w1 w2 =>
      cases w2
      cases w1.int
      exact ⟨_, rfl, q _ H (.sc (.int _))⟩
  · cases hf
def fInt : List Dt → Option Tv
  | [.int i] => some (.val (.int i))
  | [.bool b] => some (.val (.int (if b then 1 else 0)))
  | _ => none
theorem fInt_ok {K : PySem.W.Frag} : OpN K (fun xs H Q => (∃ i, xs = [.int i] ∧ Q (.int i) H) ∨ ∃ k, xs = [.bl k] ∧ Q (.int (if k then 1 else 0)) H) fInt := by
  intro c H xs ds t Q h1 hf q
  unfold fInt at hf
  split at hf
  · cases hf
    cases h1 with
    | cons w1 w2 =>
      cases w2
      cases w1.int
      exact .inl ⟨_, rfl, q _ H (.sc (.int _))⟩
  · cases hf
    cases h1 with
    | cons w1 w2 =>
      cases w2
      cases w1.bool
      exact .inr ⟨_, rfl, q _ H (.sc (.int _))⟩
  · cases hf
/-- list(xs) -/
def fList : List Dt → Option Tv
  | [.list ds] => some (.own (.lst ds))
  | [.tuple ds] => some (.own (.lst ds))
  | _ => none
theorem fList_ok {K : PySem.W.Frag} : OpN K (fun xs H Q => ∃ p ys, xs = [.ref p] ∧ (SqL K H p ys ∨ SqT K H p ys) ∧ ∀ l, H l = none → Q (.ref l) (upd H l (.lst ys))) fList := by
  intro c H xs ds t Q h1 hf q
  unfold fList at hf
  split at hf
  · cases hf
    cases h1 with
    | cons w1 w2 =>
      cases w2
      obtain ⟨a, vs, rfl, g1, i1⟩ := w1.list
      exact ⟨a, vs, rfl, .inl (.inl (.inl g1)), fun l hl => q _ _ ⟨l, vs, rfl, hl, rfl, i1⟩⟩
  · cases hf
    cases h1 with
    | cons w1 w2 =>
      cases w2
      obtain ⟨a, vs, rfl, g1, i1⟩ := w1.tuple
      exact ⟨a, vs, rfl, .inr g1, fun l hl => q _ _ ⟨l, vs, rfl, hl, rfl, i1⟩⟩
  · cases hf
/-- tuple(xs) -/
def fTuple : List Dt → Option Tv
  | [.list ds] => some (.val (.tuple ds))
  | [.tuple ds] => some (.val (.tuple ds))
  | _ => none
theorem fTuple_ok {K : PySem.W.Frag} : OpN K (fun xs H Q => ∃ p ys, xs = [.ref p] ∧ ((SqL K H p ys ∧ ∀ l, H l = none → Q (.ref l) (upd H l (.tup ys))) ∨ (SqT K H p ys ∧ Q (.ref p) H))) fTuple := by
  intro c H xs ds t Q h1 hf q
  unfold fTuple at hf
  split at hf
  · cases hf
    cases h1 with
    | cons w1 w2 =>
      cases w2
      obtain ⟨a, vs, rfl, g1, i1⟩ := w1.list
      exact ⟨a, vs, rfl, .inl ⟨.inl (.inl g1), fun l hl => q _ _ (.inr ⟨l, vs, _, rfl, rfl, hl, rfl, i1⟩)⟩⟩
  · cases hf
    cases h1 with
    | cons w1 w2 =>
      cases w2
      obtain ⟨a, vs, rfl, g1, i1⟩ := w1.tuple
      exact ⟨a, vs, rfl, .inr ⟨g1, q _ H (.sc (.tup g1 i1))⟩⟩
  · cases hf

/-! ### methods that write a list -/
/-- what a method does to the thing, by data -/
def MetOk (K : PySem.W.Frag) (r : V → List V → Hp → VK → Prop) (f : List Dt → List Dt → Option (List Dt × Dt)) : Prop :=
  ∀ (c : Col) (H : Hp) (l : Addr) (xs : List V) (ds : List Dt) (vs : List V) (es : List Dt) (ds' : List Dt) (d : Dt) (Q : VK), H l = some (.lst xs) → Ims K c H xs ds → Ims K c H vs es → f ds es = some (ds', d) →
    (∀ xs' v, Ims K c H xs' ds' → Im K c H v d → Q v (upd H l (.lst xs'))) → r (.ref l) vs H Q
def putL (e : En) (i : Nat) (ds : List Dt) : En :=
  match e[i]? with
  | some (some (.io _)) => e.set i (some (.io (.lst ds)))
  | _ => e.set i (some (.own (.lst ds)))
/-- x.m(..), x a list of one's own -/
def mMet1 (f : List Dt → List Dt → Option (List Dt × Dt)) (i : Nat) (es : List Dt) : M R := fun e =>
  match lstOf e[i]? with
  | some ds => match f ds es with
    | some (ds', d) => .ok (.tmp (.val d)) (putL e i ds')
    | none => .bad
  | none => .bad
def mMet (f : List Dt → List Dt → Option (List Dt × Dt)) (i : Nat) (ms : M (List R)) : M R := fun e =>
  match lstOf e[i]? with
  | some _ => (ms.bind fun rs => (frzs rs).bind fun es => mMet1 f i es) e
  | none => .bad
theorem Rel.putL {B : Bs} {K : PySem.W.Frag} {c : Col} {e : En} {τ : List (R × V)} {σ : St} {H : Hp} {i : Nat} {ds ds' : List Dt} (h : Rel B K c e τ σ H) (hl : lstOf e[i]? = some ds) :
    ∃ l xs, σ[i]? = some (some (.ref l)) ∧ H l = some (.lst xs) ∧ Ims K c H xs ds ∧ ∀ xs', Ims K c H xs' ds' → ∃ k : Kp c H c (upd H l (.lst xs')), Rel B K c (VL.putL e i ds') τ σ (upd H l (.lst xs')) := by
  have key : ∀ (t' : Tv), e[i]? = some (some t') → (t' = .own (.lst ds) ∨ t' = .io (.lst ds)) → ∃ l xs, σ[i]? = some (some (.ref l)) ∧ H l = some (.lst xs) ∧ Ims K c H xs ds ∧ ∀ xs', Ims K c H xs' ds' → ∃ k : Kp c H c (upd H l (.lst xs')), ∀ t2 : Tv, ((t2 = .own (.lst ds') ∧ ∃ o, t' = .own o) ∨ (t2 = .io (.lst ds') ∧ ∃ o, t' = .io o)) → Rel B K c (e.set i (some t2)) τ σ (upd H l (.lst xs')) := fun t' he ht => by
    obtain ⟨v, hv, g⟩ := h.sl i t' he
    have g' : ∃ a, v = .ref a ∧ ObAt K c H (.sl i) a (.lst ds) := by rcases ht with rfl | rfl <;> exact g
    obtain ⟨l, rfl, hc, xs, h1, h2⟩ := g'
    refine ⟨l, xs, hv, h1, h2, fun xs' h3 => ?_⟩
    have kp : Kp c H c (upd H l (.lst xs')) := .wr (by intro z; cases z) hc h1 (.inl ⟨_, rfl⟩)
    refine ⟨kp, fun t2 h4 => ?_⟩
    have hi : i < e.length := (List.getElem?_eq_some_iff.mp he).1
    refine ⟨by rw [List.length_set]; exact h.len, fun j t hj => ?_, fun k r w hk => ?_, fun b u hb n => ?_, h.bs, fun j o hj => ?_, fun P q ht => (h.tb P q ht).kp kp⟩
    · by_cases ij : i = j
      · subst ij
        rw [List.getElem?_set_self hi] at hj
        cases hj
        refine ⟨.ref l, hv, ?_⟩
        rcases h4 with ⟨rfl, _⟩ | ⟨rfl, _⟩ <;> exact ⟨l, rfl, hc, xs', upd_same, h3.kp kp⟩
      · rw [List.getElem?_set_ne ij] at hj
        obtain ⟨w, g1, g2⟩ := h.sl j t hj
        exact ⟨w, g1, g2.mv kp (.wr hc fun z => by cases z; exact ij rfl)⟩
    · exact ((h.tm k r w hk).kp kp (.wr hc fun z => nomatch z)).envset
    · obtain ⟨g1, e1⟩ := h.fr b u hb n
      obtain ⟨g2, e2⟩ := kp.obj b u g1 (by rw [e1]; exact h.bs b u hb n)
      exact ⟨g2, e2.trans e1⟩
    · by_cases ij : i = j
      · subst ij
        rw [List.getElem?_set_self hi] at hj
        cases hj
        rcases h4 with ⟨z, _⟩ | ⟨_, o2, rfl⟩
        · cases z
        · exact h.io i _ he
      · rw [List.getElem?_set_ne ij] at hj
        exact h.io j o hj
  unfold lstOf at hl
  split at hl
  · rename_i ds0 he
    cases hl
    obtain ⟨l, xs, q1, q2, q3, q4⟩ := key _ he (.inl rfl)
    refine ⟨l, xs, q1, q2, q3, fun xs' h3 => ?_⟩
    obtain ⟨k, q5⟩ := q4 xs' h3
    refine ⟨k, ?_⟩
    unfold VL.putL
    rw [he]
    exact q5 _ (.inl ⟨rfl, _, rfl⟩)
  · rename_i ds0 he
    cases hl
    obtain ⟨l, xs, q1, q2, q3, q4⟩ := key _ he (.inr rfl)
    refine ⟨l, xs, q1, q2, q3, fun xs' h3 => ?_⟩
    obtain ⟨k, q5⟩ := q4 xs' h3
    refine ⟨k, ?_⟩
    unfold VL.putL
    rw [he]
    exact q5 _ (.inr ⟨rfl, _, rfl⟩)
  · cases hl
end VL


/-! VH: methods of lists, enumerate, raise, parallel stores, slices. -/
namespace VL
open PySem PySem.Spec L2
open PyProof.Rows hiding St

/-! ### methods of lists -/
def fAppend : List Dt → List Dt → Option (List Dt × Dt) := fun ds es => match es with
  | [d] => if ds.length < 16777216 then some (ds ++ [d], .none) else none
  | _ => none
theorem sizeLine_lt {n : Nat} (h : n < 16777216) : n < sizeLine := by rw [sizeLine_eq]; exact h
theorem append_ok {K : PySem.W.Frag} : MetOk K rAppend fAppend := by
  intro c H l xs ds vs es ds' d Q h1 h2 h3 hf q
  unfold fAppend at hf
  split at hf
  · split at hf
    · rename_i hz
      cases hf
      cases h3 with
      | cons w1 w2 =>
        cases w2
        exact ⟨l, xs, _, rfl, rfl, h1, by rw [h2.length]; exact sizeLine_lt hz, q _ _ (h2.snoc w1) .non⟩
    · cases hf
  · cases hf
def fExtend : List Dt → List Dt → Option (List Dt × Dt) := fun ds es => match es with
  | [.list zs] => if small (ds.length + zs.length) = true then some (ds ++ zs, .none) else none
  | _ => none
theorem extend_ok {K : PySem.W.Frag} : MetOk K rExtend fExtend := by
  intro c H l xs ds vs es ds' d Q h1 h2 h3 hf q
  unfold fExtend at hf
  split at hf
  · split at hf
    · rename_i hz
      cases hf
      cases h3 with
      | cons w1 w2 =>
        cases w2
        cases w1 with
        | lst g0 g1 g2 => exact ⟨l, _, xs, _, rfl, rfl, h1, g1, by rw [h2.length, g2.length]; exact small_of hz, q _ _ (h2.append g2) .non⟩
    · cases hf
  · cases hf
def fPop : List Dt → List Dt → Option (List Dt × Dt) := fun ds es => match es with
  | [] => (ds[ds.length - 1]?).map fun d => (ds.dropLast, d)
  | _ => none
theorem Ims.dropLast {K : PySem.W.Frag} {c : Col} {H : Hp} {vs : List V} {ds : List Dt} (h : Ims K c H vs ds) : Ims K c H vs.dropLast ds.dropLast := by
  rw [List.dropLast_eq_take, List.dropLast_eq_take, h.length]
  exact h.take _
theorem pop_ok {K : PySem.W.Frag} : MetOk K rPop fPop := by
  intro c H l xs ds vs es ds' d Q h1 h2 h3 hf q
  unfold fPop at hf
  split at hf
  · simp only [Option.map_eq_some_iff] at hf
    obtain ⟨d', hd, z⟩ := hf
    cases z
    cases h3
    obtain ⟨v, hv, im⟩ := h2.get hd
    exact ⟨l, xs, v, rfl, rfl, h1, by rw [h2.length]; exact hv, q _ _ h2.dropLast im⟩
  · cases hf
def fPopAt : List Dt → List Dt → Option (List Dt × Dt) := fun ds es => match es with
  | [.int i] => if big62 i = true then match seqIndex? i ds.length with
      | some k => (ds[k]?).map fun d => (ds.eraseIdx k, d)
      | none => none
    else none
  | _ => none
theorem popAt_ok {K : PySem.W.Frag} : MetOk K rPopAt fPopAt := by
  intro c H l xs ds vs es ds' d Q h1 h2 h3 hf q
  unfold fPopAt at hf
  split at hf
  · split at hf
    · rename_i hz
      split at hf
      · rename_i k hk
        simp only [Option.map_eq_some_iff] at hf
        obtain ⟨d', hd, z⟩ := hf
        cases z
        cases h3 with
        | cons w1 w2 =>
          cases w2
          cases w1
          obtain ⟨v, hv, im⟩ := h2.get hd
          obtain ⟨b1, b2⟩ := big62_of hz
          exact ⟨l, xs, _, k, v, rfl, rfl, h1, by omega, by omega, by rw [h2.length]; exact hk, hv, q _ _ (h2.eraseIdx k) im⟩
      · cases hf
    · cases hf
  · cases hf
section
variable {X : Cx} {B : Bs} {W : WX}
theorem met_core {r : V → List V → Hp → VK → Prop} {f : List Dt → List Dt → Option (List Dt × Dt)} {i : Nat} {ms : M (List R)} (o : MetOk X.K r f) {σ : St} {H : Hp} {Q : VK} (h : tV B X.K X.mg W (mMet f i ms) σ H Q) :
    ∃ v, σ[i]? = some (some v) ∧ tyV X.K "list" v H ∧ tA B X.K X.mg W ms σ H fun vs H2 => r v vs H2 Q := by
  obtain ⟨c, e, τ, R, h⟩ := h
  unfold mMet at h
  cases hl : lstOf e[i]? with
  | none => rw [hl] at h; exact h.elim
  | some ds0 =>
    rw [hl] at h
    simp only at h
    obtain ⟨l, xs0, hs, hH, his, _⟩ := R.putL (ds' := ds0) hl
    refine ⟨.ref l, hs, .inl ⟨rfl, xs0, .inl (.inl hH)⟩, c, e, τ, R, wp_mono (wp_bind h) (fun rs e1 h1 vs c1 H1 hlen R1 => ?_) fun _ _ q => q⟩
    obtain ⟨es, c2, e2, R2, is, q, k⟩ := R1.frzsOk hlen (wp_bind h1)
    unfold mMet1 at q
    cases hl2 : lstOf e2[i]? with
    | none => rw [hl2] at q; exact q.elim
    | some ds =>
      rw [hl2] at q
      simp only at q
      cases hf : f ds es with
      | none => rw [hf] at q; exact q.elim
      | some p =>
        obtain ⟨ds', d⟩ := p
        rw [hf] at q
        obtain ⟨l2, xs, hs2, hH2, his2, hput⟩ := R2.putL (ds' := ds') hl2
        rw [hs] at hs2
        cases hs2
        refine o c2 H1 l xs ds vs es ds' d Q hH2 his2 is hf fun xs' v h3 h4 => ?_
        obtain ⟨kp, R3⟩ := hput xs' h3
        exact q v c2 _ (R3.push (r := .tmp (.val d)) (Im.kp kp _ h4))
theorem ve_met {r : V → List V → Hp → VK → Prop} {f : List Dt → List Dt → Option (List Dt × Dt)} {id : String} {name x : Str} {a : Expr} {es : List Expr} {ms : M (List R)} {p apos cpos : Pos} (i : Nat) (slot : PySem.Slot "list" name id) (hty : typeOf (.builtin id) = pure (.type "method_descriptor")) (hm : MtR X id r) (o : MetOk X.K r f)
    (hN : X.N[i]? = some x) (hv : Vis X.env.scope x) (ha : VA X B W (a :: es) ms) (hd : (x == ("__debug__" : Str)) = false := by decide) (hcd : (x == ("__classdict__" : Str)) = false := by decide)
    (hbase : attributeBase (.Name x p) name X.env (eval (.Name x p) X.env) = eval (.Name x p) X.env := by rfl)
    (hfew : ((backTo cpos (starEach (a :: es) X.env)).all (fun x => !x.1) && (backToKw cpos (keywordEach [] X.env)).all (fun x => x.1.isSome)
      && decide ((a :: es).length + ([] : List Keyword).length + (if ([] : List Keyword).isEmpty then 0 else 1) < 30)) = true := by rfl)
    (hline : (apos.endLine == cpos.line) = true := by rfl) (hs : starEach (a :: es) X.env = (false, eval a X.env) :: starEach es X.env := by rfl) (hplain : (backTo cpos (starEach es X.env)).any (·.1) = false := by rfl) :
    VE X B W (.Call (.Attribute (.Name x p) name apos) (a :: es) [] cpos) (mMet f i ms) :=
  PE.imp (pe_bm PySem.F.plainAttrs_list slot hty hm (pe_var hN hv hd hcd) ha hbase hfew hline hs hplain) fun σ H Q h => by
    obtain ⟨v, h1, h2, h3⟩ := met_core o h
    exact ⟨v, h1, h2, h3⟩
theorem ve_met0 {r : V → List V → Hp → VK → Prop} {f : List Dt → List Dt → Option (List Dt × Dt)} {id : String} {name x : Str} {p apos cpos : Pos} (i : Nat) (slot : PySem.Slot "list" name id) (hty : typeOf (.builtin id) = pure (.type "method_descriptor")) (hm : MtR X id r) (o : MetOk X.K r f)
    (hN : X.N[i]? = some x) (hv : Vis X.env.scope x) (hd : (x == ("__debug__" : Str)) = false := by decide) (hcd : (x == ("__classdict__" : Str)) = false := by decide)
    (hbase : attributeBase (.Name x p) name X.env (eval (.Name x p) X.env) = eval (.Name x p) X.env := by rfl)
    (hline : (apos.endLine == cpos.line) = true := by rfl) : VE X B W (.Call (.Attribute (.Name x p) name apos) [] [] cpos) (mMet f i (M.ret [])) :=
  PE.imp (pe_bm0 PySem.F.plainAttrs_list slot hty hm (pe_var hN hv hd hcd) hbase hline) fun σ H Q h => by
    obtain ⟨v, h1, h2, c, e, τ, R, h3⟩ := met_core o h
    exact ⟨v, h1, h2, h3 [] c H rfl (by rw [List.zip_nil_left, List.append_nil]; exact R)⟩
abbrev visOk (X : Cx) (x : Str) := Vis X.env.scope x
end
end VL


/-! VI: enumerate, raise, parallel stores, slices, item stores. -/
namespace VL
open PySem PySem.Spec L2
open PyProof.Rows hiding St

/-! ### enumerate -/
def IteT (K : PySem.W.Frag) (a : Addr) : It :=
  ⟨fun i H => ∃ (xs : List V) (x : V), SqT K H a xs ∧ xs[i]? = some x, fun i H v H' => ∃ T x, v = .ref T ∧ H T = none ∧ H' = upd H T (.tup [.int (i : Nat), x]) ∧ ∀ xs, SqT K H a xs → xs[i]? = some x, fun i H => ∃ xs : List V, SqT K H a xs ∧ xs.length ≤ i⟩
theorem turn_enumT {P : Program} {w : World} {K : PySem.W.Frag} {elts : List Expr} {kk : Nat} {tpos : Pos} (a e it : Addr) (hfp : e ≠ a ∧ it ≠ a) :
    Turn P w K (.Tuple elts kk tpos) (IteT K a) [e, it] e (fun i h => (∃ old, IsEnum h e it ((i : Nat) : Int) old) ∧ h.IsTupleIter it a i ∧ e ≠ it) where
  mem := by simp
  obj := fun i h st b hb => by
    obtain ⟨⟨old, he⟩, ⟨o, ho, hc, hd⟩, _⟩ := st
    have e' : b = e ∨ b = it := by simpa using hb
    rcases e' with z | z
    · rw [z]; exact ⟨_, he, fun v q => nomatch q⟩
    · rw [z]; exact ⟨o, ho, fun v q => by rw [hd] at q; cases q⟩
  keep := fun i h h' st k => let ⟨⟨old, he⟩, hi, hne⟩ := st; ⟨⟨old, k e (by simp) _ he⟩, hi.at fun o q => k it (by simp) o q, hne⟩
  item := by
    intro X hP hw hK hc i pins s σ H E I hf st hg
    subst hP hw hK
    obtain ⟨⟨old, he⟩, hit, hne⟩ := st
    obtain ⟨xs, x, hq, hx⟩ := hg
    obtain ⟨its, rv, p, hz⟩ := I.tuple hq
    obtain ⟨u, hu, ru⟩ := rv.get hx
    have hel : e < s.heap.objs.size := Heap.lt_size he
    have hil : it < s.heap.objs.size := by obtain ⟨_, q, _⟩ := hit; exact Heap.lt_size q
    have p' : s.heap.IsTuple a its.toArray := p
    refine wpAny_pyNext_enum_itemD (Draws.tuple (prog := X.prog) (w := X.w) (A := X.A.in1) (I.ok.hd hc) it a (Ne.symm hfp.2) its.toArray) he ⟨hit, p'⟩ (by simp; exact (List.getElem?_eq_some_iff.mp hu).1) hne
      (by simp only [List.mem_cons, List.not_mem_nil, or_false, not_or]; exact ⟨hne, hfp.1⟩) fun x' h' tk hP ho hst hT hsz hk => ?_
    obtain ⟨hit', _⟩ := hst
    have ex : x' = u := by
      have q : its.toArray[i]? = some u := by simpa using hu
      rw [q] at hP
      exact (Option.some.inj hP).symm
    subst ex
    refine ⟨_, rfl, wpAny_letOwnedTupleGo_enum (s := { s with heap := h', toks := tk + 1 }) ho fun h'' he' sb => ?_⟩
    have hT2 : h''.get? s.heap.objs.size = some { cls := .type "tuple", data := .seq #[.int i tk, x'] } := (sb.2 _ (Nat.ne_of_gt hel)).trans hT
    have new : ObjOk X.prog X.w (upd H s.heap.objs.size (.tup [.int (i : Nat), x])) h'' s.heap.objs.size (.tup [.int (i : Nat), x]) :=
      ⟨by show 2 ≤ sizeLine; decide, [.int i tk, x'], .cons ⟨_, rfl⟩ (.cons ru .nil), ⟨_, hT2, rfl, _, rfl⟩⟩
    have I1 : Inv X pins σ (upd H s.heap.objs.size (.tup [.int (i : Nat), x])) { s with heap := h'', toks := tk + 1 } :=
      I.turnedNew (ch := [e, it]) (fun b ob hb q => (sb.2 b (fun z => hb (by simp [z]))).trans (hk b ob (fun z => hb (by simp [z])) (fun z => hb (by simp [z])) q)) hf (Nat.le_refl _) new
    refine ⟨.ref s.heap.objs.size, _, I1, rfl, ⟨_, x, rfl, I.hok.fresh (Nat.le_refl _), rfl, fun ys hy => ?_⟩, ⟨⟨x', ?_⟩, hit'.at fun o q => (sb.2 it (Ne.symm hne)).trans q, hne⟩, fun b hb => ?_⟩
    · rw [I.tuple_inj hy hq]; exact hx
    · have e1 : ((i + 1 : Nat) : Int) = (i : Int) + 1 := by omega
      rw [e1]; exact he'
    · have hb' : b < s.heap.objs.size := by
        have e' : b = e ∨ b = it := by simpa using hb
        rcases e' with z | z
        · rw [z]; exact hel
        · rw [z]; exact hil
      rw [upd_ne (Nat.ne_of_lt hb')]
      exact (hf b hb).1
  done := by
    intro X hP hw hK hc i pins s σ H E I hf st hg
    subst hP hw hK
    obtain ⟨⟨old, he⟩, hit, hne⟩ := st
    obtain ⟨xs, hq, hx⟩ := hg
    obtain ⟨its, rv, p, hz⟩ := I.tuple hq
    obtain ⟨f0, f1, f2, f3, f4, f5⟩ := hf it (by simp)
    have hl := rv.length
    have p' : s.heap.IsTuple a its.toArray := p
    have D : Draws X.prog X.w X.A.in1 it [it, a] i (fun _ _ => True) (fun j h => j = i ∧ h.IsTupleIter it a i ∧ h.IsTuple a its.toArray) :=
      { live := fun _ _ st => let ⟨_, ⟨o, ho, _⟩, _⟩ := st; ⟨o, ho⟩
        frame := fun _ _ _ st hk => ⟨st.1, st.2.1.at fun o e => hk it (by simp) o e, st.2.2.at fun o e => hk a (by simp) o e⟩
        item := fun j s Q E hi st _ => absurd st.1 (Nat.ne_of_lt hi)
        done := fun s Q E st hE => wpAny_nextOf_tuple_end (show X.A.in1.handled = none from I.ok.hd hc) st.2.1 st.2.2 (by simp; omega) hE }
    exact wpAny_pyNext_enum_endD D he ⟨rfl, hit, p'⟩ fun h' eb => ⟨rfl, I.turned (t' := s.toks) (fun b o hb q => eb b o hb q) f0 f1 f3 f4 f5⟩
  self := fun A i s Q E st h => let ⟨⟨_, he⟩, _⟩ := st; wpAny_pyIter_enum he h

section
open PySem.AutoSeq1 (wpAny_loadPart')
theorem meets_enumT (t : Addr) (items : Array Value) :
    Meets (Builtin.«enumerate.__new__» ⟨[.type "enumerate", .ref t], []⟩) (fun _ R s => s.heap.IsTuple t items ∧
      R (.ok (.ret (.ref (s.heap.push { cls := .type "tuple_iterator", data := .fields #[.ref t, .int 0 0] }).objs.size)))
        { s with heap := (s.heap.push { cls := .type "tuple_iterator", data := .fields #[.ref t, .int 0 0] }).push { cls := .type "enumerate", data := .fields #[.none, .bool false, .ref s.heap.objs.size, rawInt 0, .none, .none] } }) :=
  .of_wp fun prog w A R s h => by
    obtain ⟨hp, g, d, tk, os⟩ := s
    obtain ⟨hL, h⟩ := h
    have hsub := sub_enumerate
    have hT : Heap.IsTuple (Shared.heap ⟨hp, g, d, tk, os⟩) t items := hL
    obtain ⟨o, hl, hc, n, hd⟩ := id hL
    wp_walk using wpAny_loadPart' hl
    refine wpAny_stack_any fun st => wpAny_pure ?_
    split
    · rename_i c _ _ _ _ _
      cases (c == Value.type "enumerate")
      · wp_walk using wpAny_loadPart' hl, wpAny_pyIter_tuple hT
        exact ⟨_, rfl, h⟩
      · wp_walk using wpAny_loadPart' hl, wpAny_pyIter_tuple hT
        exact ⟨_, rfl, h⟩
    · wp_walk using wpAny_loadPart' hl, wpAny_pyIter_tuple hT
      exact ⟨_, rfl, h⟩
end
theorem call_enumT {prog : Program} {w : World} {A : Around} {E : Value → Shared → Prop} {s : Shared} {t : Addr} {items : Array Value} {Q : Value → Shared → Prop} (ht : s.heap.IsTuple t items)
    (h : ∀ h', IsEnum h' (s.heap.objs.size + 1) s.heap.objs.size 0 .none → h'.IsTupleIter s.heap.objs.size t 0 →
      (∀ b o, s.heap.get? b = some o → h'.get? b = some o) → Q (.ref (s.heap.objs.size + 1)) { s with heap := h' }) :
    wpAny (model prog w) A (call (.type "enumerate") [.ref t]) Q E s := by
  refine callType_new F.called_enumerate (by decide) (F.typeCall_enumerate_1 _) (F.newCall_enumerate_1 _) (fun obj => F.args_object_init_2 obj _) F.entry_enumerate_new
    (meets_enumT t items) ⟨ht, ?_⟩
  have hz : (s.heap.push { cls := .type "tuple_iterator", data := .fields #[.ref t, .int 0 0] }).objs.size = s.heap.objs.size + 1 := Heap.size_push ..
  show _ ∧ _
  rw [hz]
  have he : IsEnum ((s.heap.push { cls := .type "tuple_iterator", data := .fields #[.ref t, .int 0 0] }).push { cls := .type "enumerate", data := .fields #[.none, .bool false, .ref s.heap.objs.size, rawInt 0, .none, .none] }) (s.heap.objs.size + 1) s.heap.objs.size 0 .none := by
    have := Heap.get?_push_size (s.heap.push { cls := .type "tuple_iterator", data := .fields #[.ref t, .int 0 0] }) (o := { cls := .type "enumerate", data := .fields #[.none, .bool false, .ref s.heap.objs.size, rawInt 0, .none, .none] }) rfl
    rw [hz] at this
    exact this
  refine ⟨⟨_, he, rfl⟩, h _ he ?_ fun b o x => Heap.get?_push_of_some _ (Heap.get?_push_of_some _ x)⟩
  exact ⟨_, Heap.get?_push_of_some _ (Heap.get?_push_size _ rfl), rfl, rfl⟩
def enumD : Nat → List Dt → List Dt
  | _, [] => []
  | k, d :: ds => .tuple [.int k, d] :: enumD (k + 1) ds
theorem enumD_length : ∀ (k : Nat) (ds : List Dt), (enumD k ds).length = ds.length
  | _, [] => rfl
  | k, _ :: ds => congrArg (· + 1) (enumD_length (k + 1) ds)
theorem enumD_get : ∀ (k : Nat) (ds : List Dt) (i : Nat), (enumD k ds)[i]? = (ds[i]?).map fun d => .tuple [.int (k + i : Nat), d]
  | _, [], _ => rfl
  | k, d :: ds, 0 => rfl
  | k, d :: ds, i + 1 => by
    show (enumD (k + 1) ds)[i]? = _
    rw [enumD_get (k + 1) ds i, show k + 1 + i = k + (i + 1) by omega]
    rfl
theorem Ite_src {K : PySem.W.Frag} {a : Addr} {ds : List Dt} : Src K (Ite K a) [(.tmp (.val (.list ds)), .ref a)] (enumD 0 ds) where
  nb := NoB.val
  go := fun c H i h hi => by
    rw [enumD_length] at hi
    cases h _ _ List.mem_cons_self with
    | lst h0 h1 h2 => exact ⟨_, _, .inl (.inl h1), List.getElem?_eq_getElem (by rw [h2.length]; exact hi)⟩
  stop := fun c H i h hi => by
    rw [enumD_length] at hi
    cases h _ _ List.mem_cons_self with
    | lst h0 h1 h2 => exact ⟨_, .inl (.inl h1), by rw [h2.length]; exact hi⟩
  yld := fun c H i x H' h ⟨T, y, e1, e2, e3, e4⟩ d hd => by
    subst e1 e3
    rw [enumD_get] at hd
    simp only [Option.map_eq_some_iff] at hd
    obtain ⟨d0, hd, rfl⟩ := hd
    cases h _ _ List.mem_cons_self with
    | lst h0 h1 h2 =>
      obtain ⟨v, hv, im⟩ := h2.get hd
      have e5 := (e4 _ (.inl (.inl h1))).symm.trans hv
      cases e5
      rw [Nat.zero_add]
      exact .inr ⟨T, _, _, rfl, rfl, e2, rfl, .cons (.int _) (.cons im .nil)⟩
theorem IteT_src {K : PySem.W.Frag} {a : Addr} {ds : List Dt} : Src K (IteT K a) [(.tmp (.val (.tuple ds)), .ref a)] (enumD 0 ds) where
  nb := NoB.val
  go := fun c H i h hi => by
    rw [enumD_length] at hi
    cases h _ _ List.mem_cons_self with
    | tup h1 h2 => exact ⟨_, _, h1, List.getElem?_eq_getElem (by rw [h2.length]; exact hi)⟩
  stop := fun c H i h hi => by
    rw [enumD_length] at hi
    cases h _ _ List.mem_cons_self with
    | tup h1 h2 => exact ⟨_, h1, by rw [h2.length]; exact hi⟩
  yld := fun c H i x H' h ⟨T, y, e1, e2, e3, e4⟩ d hd => by
    subst e1 e3
    rw [enumD_get] at hd
    simp only [Option.map_eq_some_iff] at hd
    obtain ⟨d0, hd, rfl⟩ := hd
    cases h _ _ List.mem_cons_self with
    | tup h1 h2 =>
      obtain ⟨v, hv, im⟩ := h2.get hd
      have e5 := (e4 _ h1).symm.trans hv
      cases e5
      rw [Nat.zero_add]
      exact .inr ⟨T, _, _, rfl, rfl, e2, rfl, .cons (.int _) (.cons im .nil)⟩
theorem pi_enumS {X : Cx} {e : Expr} {ta : TA} {p pos tpos : Pos} {elts : List Expr} {kk : Nat} (hg : Gl X "enumerate") (hm : X.mg "enumerate" = none) (ha : PA X [e] ta) (hs : starEach [e] X.env = [(false, eval e X.env)] := by rfl) :
    PI X (.Tuple elts kk tpos) (.Call (.Name "enumerate" p) [e] [] pos) (fun σ H R => ta σ H fun vs H1 => ∃ a, vs = [.ref a] ∧ (((∃ xs, SqL X.K H1 a xs) ∧ R (Ite X.K a) H1) ∨ ((∃ xs, SqT X.K H1 a xs) ∧ R (IteT X.K a) H1))) := by
  refine ⟨fun pins s σ H R I h => ?_⟩
  refine Call_ (ld_blt I hg hm boot_enumerate (PyProof.Rows.callWith_type1 (thn (ha.run pos pins s σ H _ I h) fun us s1 ⟨vs, H1, I1, r1, q1⟩ => ?_) hs rfl))
  obtain ⟨a, ex, q1⟩ := q1
  subst ex
  cases r1 with
  | cons r rr =>
    cases rr
    cases r
    have fp : ∀ b ∈ [s1.heap.objs.size + 1, s1.heap.objs.size], FpOk X pins H1 b := fun b hb => by
      have e' : b = s1.heap.objs.size + 1 ∨ b = s1.heap.objs.size := by simpa using hb
      have hle : s1.heap.objs.size ≤ b := by
        rcases e' with z | z
        · rw [z]; exact Nat.le_add_right _ _
        · rw [z]; exact Nat.le_refl _
      exact I1.fpOk hle (I1.hok.fresh hle)
    rcases q1 with ⟨⟨xs, hq⟩, q⟩ | ⟨⟨xs, hq⟩, q⟩
    · obtain ⟨its, rv, p', hz⟩ := I1.list hq
      refine call_enumerate_list p'.isList fun h' he hit hsz hk => wpAny_pyIter_enum he ?_
      have I2 : Inv X pins σ H1 { s1 with heap := h' } := I1.kept (t' := s1.toks) hk
      exact ⟨s1.heap.objs.size + 1, [s1.heap.objs.size + 1, s1.heap.objs.size], _, _, H1, rfl, I2, turn_enum a (s1.heap.objs.size + 1) s1.heap.objs.size, ⟨⟨.none, he⟩, hit, Nat.succ_ne_self _⟩, fp, q⟩
    · obtain ⟨its, rv, p', hz⟩ := I1.tuple hq
      have hlt : a < s1.heap.objs.size := by obtain ⟨_, q, _⟩ := p'; exact Heap.lt_size q
      refine call_enumT (show s1.heap.IsTuple a its.toArray from p') fun h' he hit hk => wpAny_pyIter_enum he ?_
      have I2 : Inv X pins σ H1 { s1 with heap := h' } := I1.kept (t' := s1.toks) hk
      exact ⟨s1.heap.objs.size + 1, [s1.heap.objs.size + 1, s1.heap.objs.size], _, _, H1, rfl, I2, turn_enumT a (s1.heap.objs.size + 1) s1.heap.objs.size ⟨Nat.ne_of_gt (Nat.lt_succ_of_lt hlt), Nat.ne_of_gt hlt⟩, ⟨⟨.none, he⟩, hit, Nat.succ_ne_self _⟩, fp, q⟩
section
variable {X : Cx} {B : Bs} {W : WX}
def iEnum1 (m : M R) : M (List Dt) := m.bind fun r => (frz r).bind fun d => (M.of (seqOf d)).bind fun ds => M.ret (enumD 0 ds)
theorem pa_one {e : Expr} {t : TE} (h : PE X e t) (hs : starEach [e] X.env = (false, eval e X.env) :: starEach [] X.env := by rfl) : PA X [e] (fun σ H Q => t σ H fun v H1 => Q [v] H1) :=
  PA.imp (pa_cons h pa_nil hs) fun σ H Q q => q
theorem vi_enum {elts : List Expr} {kk : Nat} {e : Expr} {m : M R} {p pos tpos : Pos} (hg : Gl X "enumerate") (hm : X.mg "enumerate" = none) (ha : VE X B W e m) (hs : starEach [e] X.env = [(false, eval e X.env)] := by rfl) :
    VI X B W (.Tuple elts kk tpos) (.Call (.Name "enumerate" p) [e] [] pos) (iEnum1 m) := by
  refine PI.imp (pi_enumS hg hm (pa_one ha hs) hs) fun σ H Rr h => ?_
  obtain ⟨c, e, τ, r, h⟩ := h
  refine ⟨c, e, τ, r, wp_mono (wp_bind h) (fun r1 e1 q v c1 H1 R1 => ?_) fun _ _ q => q⟩
  obtain ⟨d, e2, hf, q⟩ := wp_frz (wp_bind q)
  obtain ⟨c2, R2⟩ := R1.fzTop hf
  obtain ⟨ds, hd, q⟩ := wp_of (wp_bind q)
  have im : Im X.K c2 H1 v d := R2.top
  cases im with
  | lst hc h1 h2 => cases hd; exact ⟨_, rfl, .inl ⟨⟨_, .inl (.inl h1)⟩, q _ _ c2 H1 Ite_src R2⟩⟩
  | tup h1 h2 => cases hd; exact ⟨_, rfl, .inr ⟨⟨_, h1⟩, q _ _ c2 H1 IteT_src R2⟩⟩
  | _ => cases hd
end
end VL


/-! VJ: raise, parallel stores, slices, item stores. -/
namespace VL
open PySem PySem.Spec L2
open PyProof.Rows hiding St

section
variable {X : Cx} {B : Bs} {W : WX}
/-! ### raise X() -/
theorem pmk_own0 {C : Addr} {bmB : List Value} {BB newId initId : String} {x : Str} {p pos : Pos} (F : ExcBaseFacts BB newId initId bmB) (q : PySem.W.excIn X.K C bmB newId = true) (gC : X.mg x = some (.ref C))
    (kC : PySem.W.keepIn X.K (.ref C) = true) (r : Raises X (.ref C)) (hg : Gl X x) (hdb : (x == ("__debug__" : Str)) = false := by decide) :
    PMk X (.Call (.Name x p) [] [] pos) (fun σ H Q => Q (.ref C) none H) := by
  intro pins s σ H Q I h
  refine wpAny_Call_Name_kw (ld_glob I hg gC ?_ hdb)
  refine PySem.W.callWith_K0 I.kIn kC ?_
  show wpAny _ _ (call (.ref C) []) _ _ _
  obtain ⟨bm, N, nm, qn, bs, hdct, sn, sub, ab, col, dd, k0, k1, k2, k3, k5, mN, hC, hN, hni, T⟩ := exc_obj I.kIn q
  refine wpAny_call_exc_subT F T hC hN hni (fun h' e hm => ?_) (by show 0 ≤ sizeLine; exact Nat.zero_le _)
  exact mk_of I hm r h (I.hok.gone hm.new)
def sRaise (x : Ex) : S := fun e => .er x e
theorem vs_raise0 {C : Addr} {bmB : List Value} {BB newId initId : String} {x : Str} {p pos pos' : Pos} (hc : X.calm = true) (tk : Takes X W) (F : ExcBaseFacts BB newId initId bmB) (q : PySem.W.excIn X.K C bmB newId = true) (gC : X.mg x = some (.ref C))
    (kC : PySem.W.keepIn X.K (.ref C) = true) (r : Raises X (.ref C)) (hg : Gl X x) (hdb : (x == ("__debug__" : Str)) = false := by decide) : VS X B W (.Raise (some (.Call (.Name x p) [] [] pos)) none pos') (sRaise ⟨x, none⟩) := by
  refine PS.imp (ps_raise hc tk (pmk_own0 F q gC kC r hg hdb)) fun D σ H h => ?_
  obtain ⟨c, e, τ, R, nb, h⟩ := h
  exact h σ (.ref C) none c H R ⟨gC, rfl⟩

/-! ### a, b = x, y -/
def isTmp : R → Bool
  | .tmp _ => true
  | .bor _ => false
def sPar2 (i j : Nat) (ms : M (List R)) : S := S.run ms fun rs e => match rs with
  | [r, r'] => if isTmp r = true then match sto j r' e with
      | some e1 => match sto i r e1 with
        | some e2 => .nx e2
        | none => .bad
      | none => .bad
    else .bad
  | _ => .bad
theorem NoB.snoc {τ : List (R × V)} {r : R} {v : V} (nb : NoB τ) (h : isTmp r = true) : NoB (τ ++ [(r, v)]) := fun p hp i z => by
  rcases List.mem_append.mp hp with q | q
  · exact nb p q i z
  · cases List.mem_singleton.mp q
    subst z
    cases h
theorem vs_par2 {i j : Nat} {x y : Str} {a b : Expr} {ms : M (List R)} {px py pt pos : Pos} {kt k2 pt2} (hc : X.calm = true) (hN : X.N.Nodup) (hi : X.N[i]? = some x) (hj : X.N[j]? = some y) (hij : i ≠ j)
    (hx : X.env.scope.names.lookup x = some .local) (hy : X.env.scope.names.lookup y = some .local) (ha : VA X B W [a, b] ms)
    (hw : swappedStores [.Tuple [.Name x px, .Name y py] kt pt] (.Tuple [a, b] k2 pt2) X.env = pure (some [x, y]))
    (hs : swapsWithSole [.Tuple [.Name x px, .Name y py] kt pt] (.Tuple [a, b] k2 pt2) pos.line X.env = pure false := by rfl) :
    VS X B W (.Assign [.Tuple [.Name x px, .Name y py] kt pt] (.Tuple [a, b] k2 pt2) pos) (sPar2 i j ms) := by
  refine PS.imp (ps_par hc hN hi hj hij hx hy ha hw hs) fun D σ H h => ?_
  obtain ⟨c, e, τ, R, nb, h⟩ := h
  refine ⟨c, e, τ, R, wp_mono (wp_run h) (fun rs e1 q vs c1 H1 hl R1 => ?_) fun _ _ q => q σ⟩
  split at q
  · rename_i r r'
    split at q
    · rename_i ht
      split at q
      · rename_i e2 h2
        split at q
        · rename_i e3 h3
          cases vs with
          | nil => cases hl
          | cons v vs =>
            cases vs with
            | nil => cases hl
            | cons w vs =>
              cases vs with
              | cons _ _ => cases hl
              | nil =>
                refine ⟨v, w, rfl, ?_⟩
                have R2 : Rel B X.K c1 e1 ((τ ++ [(r, v)]) ++ [(r', w)]) σ H1 := by rw [List.append_assoc]; exact R1
                obtain ⟨c3, R3⟩ := R2.store (nb.snoc ht) h2
                obtain ⟨c4, R4⟩ := R3.store nb h3
                rw [List.set_comm _ _ hij]
                exact q _ c4 H1 R4
        · exact q.elim
      · exact q.elim
    · exact q.elim
  · exact q.elim
def sPar3 (i j l : Nat) (ms : M (List R)) : S := S.run ms fun rs e => match rs with
  | [r, r', r''] => if isTmp r = true ∧ isTmp r' = true then match sto l r'' e with
      | some e1 => match sto j r' e1 with
        | some e2 => match sto i r e2 with
          | some e3 => .nx e3
          | none => .bad
        | none => .bad
      | none => .bad
    else .bad
  | _ => .bad
theorem vs_par3 {i j l : Nat} {x y z : Str} {a b d : Expr} {ms : M (List R)} {px py pz pt pos : Pos} {kt k2 pt2} (hc : X.calm = true) (hN : X.N.Nodup) (hi : X.N[i]? = some x) (hj : X.N[j]? = some y) (hl : X.N[l]? = some z) (hij : i ≠ j) (hil : i ≠ l) (hjl : j ≠ l)
    (hx : X.env.scope.names.lookup x = some .local) (hy : X.env.scope.names.lookup y = some .local) (hz : X.env.scope.names.lookup z = some .local) (ha : VA X B W [a, b, d] ms)
    (hw : swappedStores [.Tuple [.Name x px, .Name y py, .Name z pz] kt pt] (.Tuple [a, b, d] k2 pt2) X.env = pure (some [x, y, z]))
    (hs : swapsWithSole [.Tuple [.Name x px, .Name y py, .Name z pz] kt pt] (.Tuple [a, b, d] k2 pt2) pos.line X.env = pure false := by rfl) :
    VS X B W (.Assign [.Tuple [.Name x px, .Name y py, .Name z pz] kt pt] (.Tuple [a, b, d] k2 pt2) pos) (sPar3 i j l ms) := by
  refine PS.imp (ps_par3 hc hN hi hj hl hij hil hjl hx hy hz ha hw hs) fun D σ H h => ?_
  obtain ⟨c, e, τ, R, nb, h⟩ := h
  refine ⟨c, e, τ, R, wp_mono (wp_run h) (fun rs e1 q vs c1 H1 hl R1 => ?_) fun _ _ q => q σ⟩
  split at q
  · rename_i r r' r''
    split at q
    · rename_i ht
      split at q
      · rename_i e2 h2
        split at q
        · rename_i e3 h3
          split at q
          · rename_i e4 h4
            match vs, hl with
            | [u, v, w], _ =>
              refine ⟨u, v, w, rfl, ?_⟩
              have R2 : Rel B X.K c1 e1 (((τ ++ [(r, u)]) ++ [(r', v)]) ++ [(r'', w)]) σ H1 := by rw [List.append_assoc, List.append_assoc]; exact R1
              obtain ⟨c3, R3⟩ := R2.store ((nb.snoc ht.1).snoc ht.2) h2
              obtain ⟨c4, R4⟩ := R3.store (nb.snoc ht.1) h3
              obtain ⟨c5, R5⟩ := R4.store nb h4
              rw [List.set_comm _ _ (Ne.symm hjl), List.set_comm _ _ (Ne.symm hil), List.set_comm _ _ (Ne.symm hij)] at R5
              exact q _ c5 H1 R5
          · exact q.elim
        · exact q.elim
      · exact q.elim
    · exact q.elim
  · exact q.elim

/-! ### slices -/
theorem PO.imp {X : Cx} {e : Option Expr} {t t' : TO} (h : PO X e t) (w : ∀ σ H Q, t' σ H Q → t σ H Q) : PO X e t' := ⟨fun pins s σ H Q I q => h.run pins s σ H Q I (w _ _ _ q)⟩
def tO (B : Bs) (K : PySem.W.Frag) (mg : Str → Option Value) (W : WX) (m : M (Option Int)) : TO := fun σ H Q => ∃ c e τ, Rel B K c e τ σ H ∧ (m e).wp (fun o e' => ∀ c' H', Rel B K c' e' τ σ H' → Q o H') (ErrW B K mg W σ τ)
def VO (X : Cx) (B : Bs) (W : WX) (e : Option Expr) (m : M (Option Int)) : Prop := PO X e (tO B X.K X.mg W m)
theorem vo_none : VO X B W none (M.ret none) := PO.imp po_none fun σ H Q h => by
  obtain ⟨c, e, τ, R, h⟩ := h
  exact h c H R
def asInt : Dt → Option Int
  | .int i => some i
  | _ => none
def mPart (m : M R) : M (Option Int) := m.bind fun r => (look r).bind fun d => (M.of (asInt d)).bind fun i => M.ret (some i)
theorem vo_some {e : Expr} {m : M R} (h : VE X B W e m) : VO X B W (some e) (mPart m) := PO.imp (po_some h) fun σ H Q h => by
  obtain ⟨c, e, τ, R, h⟩ := h
  refine ⟨c, e, τ, R, wp_mono (wp_bind h) (fun r1 e1 q v c1 H1 R1 => ?_) fun _ _ q => q⟩
  obtain ⟨d, hd, q⟩ := wp_look (wp_bind q)
  obtain ⟨i, hi, q⟩ := wp_of (wp_bind q)
  have w := R1.vw R1.top hd
  cases d with
  | int i' => cases hi; exact ⟨i, w.int, q c1 H1 R1.pop⟩
  | _ => cases hi
def SlOk (K : PySem.W.Frag) (r : V → Option Int → Option Int → Hp → VK → Prop) (f : Dt → Option Int → Option Int → Option Tv) : Prop :=
  ∀ (c : Col) (H : Hp) (x : V) (d : Dt) (lo hi : Option Int) (t : Tv) (Q : VK), Vw K c H x d → f d lo hi = some t → (∀ v H', Nw K c H t v H' → Q v H') → r x lo hi H Q
def mSl (f : Dt → Option Int → Option Int → Option Tv) (m : M R) (ml mh : M (Option Int)) : M R := m.bind fun r => ml.bind fun lo => mh.bind fun hi => (look r).bind fun d => (M.of (f d lo hi)).bind fun t => M.ret (.tmp t)
theorem ve_slice {r : V → Option Int → Option Int → Hp → VK → Prop} {f : Dt → Option Int → Option Int → Option Tv} {a : Expr} {lo hi : Option Expr} {m : M R} {ml mh : M (Option Int)} {pos p2 : Pos} (hr : SlR X r) (o : SlOk X.K r f) (ha : VE X B W a m) (hl : VO X B W lo ml) (hh : VO X B W hi mh) :
    VE X B W (.Subscript a (.Slice lo hi none p2) pos) (mSl f m ml mh) := by
  refine PE.imp (pe_slice hr ha hl hh) fun σ H Q h => ?_
  obtain ⟨c, e, τ, R, h⟩ := h
  refine ⟨c, e, τ, R, wp_mono (wp_bind h) (fun r1 e1 q v c1 H1 R1 => ?_) fun _ _ q => q⟩
  refine ⟨c1, e1, _, R1, wp_mono (wp_bind q) (fun l e2 q c2 H2 R2 => ?_) fun x e q => q.more⟩
  refine ⟨c2, e2, _, R2, wp_mono (wp_bind q) (fun u e3 q c3 H3 R3 => ?_) fun x e q => q.more⟩
  obtain ⟨d, hd, q⟩ := wp_look (wp_bind q)
  obtain ⟨t, ht, q⟩ := wp_of (wp_bind q)
  refine o c3 H3 v d l u t Q (R3.vw R3.top hd) ht fun v' H' n => ?_
  obtain ⟨c4, R4⟩ := R3.new2 n
  exact q v' c4 H' R4
/-- the items of a slice -/
def cutD (xs : List Dt) (lo hi : Option Int) : List Dt := (xs.drop (HT.sIx xs.length 0 lo)).take (HT.sIx xs.length xs.length hi - HT.sIx xs.length 0 lo)
def fSl : Dt → Option Int → Option Int → Option Tv
  | .list ds, lo, hi => some (.own (.lst (cutD ds lo hi)))
  | .tuple ds, lo, hi => if HT.sIx ds.length 0 lo = 0 ∧ HT.sIx ds.length ds.length hi = ds.length then none else some (.val (.tuple (cutD ds lo hi)))
  | _, _, _ => none
abbrev rSlV (K : PySem.W.Frag) : V → Option Int → Option Int → Hp → VK → Prop := fun x lo hi H Q => rSlL K x lo hi H Q ∨ rSlT K x lo hi H Q
theorem sl_V : SlR X (rSlV X.K) := SlR.or sl_list sl_tup
theorem Ims.cut {K : PySem.W.Frag} {c : Col} {H : Hp} {vs : List V} {ds : List Dt} (h : Ims K c H vs ds) (lo hi : Option Int) : Ims K c H (cutV vs lo hi) (cutD ds lo hi) := by
  unfold cutV cutD
  rw [h.length]
  exact (h.drop _).take _
theorem fSl_ok {K : PySem.W.Frag} : SlOk K (rSlV K) fSl := by
  intro c H x d lo hi t Q h hf q
  unfold fSl at hf
  split at hf
  · cases hf
    obtain ⟨a, vs, rfl, g1, i1⟩ := h.list
    exact .inl ⟨a, vs, rfl, .inl (.inl g1), fun p hp => q _ _ ⟨p, _, rfl, hp, rfl, i1.cut lo hi⟩⟩
  · split at hf
    · cases hf
    · rename_i hw
      cases hf
      obtain ⟨a, vs, rfl, g1, i1⟩ := h.tuple
      exact .inr ⟨a, vs, rfl, g1, by rw [i1.length]; exact hw, fun p hp => q _ _ (.inr ⟨p, _, _, rfl, rfl, hp, rfl, i1.cut lo hi⟩)⟩
  · cases hf
end
end VL


/-! VK: grids. -/
namespace VL
open PySem PySem.Spec L2
open PyProof.Rows hiding St

section
variable {B : Bs} {K : PySem.W.Frag} {c c' : Col} {e : En} {τ : List (R × V)} {σ : St} {H H' : Hp}
theorem Gr.len {i : Cl} {as : List Addr} {rs : List (List Dt)} (h : Gr K c H i as rs) : as.length = rs.length := h.length
theorem Gr.col {i : Cl} : ∀ {as : List Addr} {rs : List (List Dt)}, Gr K c H i as rs → ∀ b ∈ as, c b = some i
  | _, _, .nil, b, h => by cases h
  | _, _, .cons h1 _ _ h4, b, h => by
    rcases List.mem_cons.mp h with z | z
    · rw [z]; exact h1
    · exact h4.col b z
theorem Gr.snoc {i : Cl} {b : Addr} {vs : List V} {ds : List Dt} : ∀ {as : List Addr} {rs : List (List Dt)}, Gr K c H i as rs → c b = some i → H b = some (.lst vs) → Ims K c H vs ds → Gr K c H i (as ++ [b]) (rs ++ [ds])
  | _, _, .nil, h1, h2, h3 => .cons h1 h2 h3 .nil
  | _, _, .cons g1 g2 g3 g4, h1, h2, h3 => .cons g1 g2 g3 (g4.snoc h1 h2 h3)
/-- the list at D is written, the rows stay -/
theorem Gr.past {i j : Cl} {D : Addr} {o : HO} (k : Kp c H c' (upd H D o)) : ∀ {as : List Addr} {rs : List (List Dt)}, D ∉ as → (∀ b ∈ as, c' b = some j) → Gr K c H i as rs → Gr K c' (upd H D o) j as rs
  | _, _, _, _, .nil => .nil
  | _, _, hn, hc, .cons g1 g2 g3 g4 => by
    simp only [List.mem_cons, not_or] at hn
    exact .cons (hc _ List.mem_cons_self) (by rw [upd_ne (Ne.symm hn.1)]; exact g2) (g3.kp k) (g4.past k hn.2 fun b hb => hc b (List.mem_cons_of_mem _ hb))
theorem Rel.growG {acc : List (List Dt)} {D : Addr} {v : V} {y : List Dt} (h : Rel B K c e (τ ++ [(.tmp (.own (.grid acc)), .ref D)] ++ [(.tmp (.own (.lst y)), v)]) σ H) :
    ∃ as : List Addr, H D = some (.lst (as.map V.ref)) ∧ as.length = acc.length ∧ ∃ c', Rel B K c' e (τ ++ [(.tmp (.own (.grid (acc ++ [y]))), .ref D)]) σ (upd H D (.lst (as.map V.ref ++ [v]))) := by
  obtain ⟨b, rfl, hcb, vs, hb, ib⟩ := h.top
  obtain ⟨D', eD, hcD, as, hD, nD, nd, gr⟩ := h.pop.top
  cases eD
  rw [List.length_append, List.length_singleton] at hcb
  refine ⟨as, hD, gr.length, c.mv (.tm (τ.length + 1)) (some (.tm τ.length)), ?_⟩
  have k1 : Kp c H c (upd H D (.lst (as.map V.ref ++ [V.ref b]))) := .wr (by intro z; cases z) hcD hD (.inl ⟨_, rfl⟩)
  have k2 : Kp c H (c.mv (.tm (τ.length + 1)) (some (.tm τ.length))) (upd H D (.lst (as.map V.ref ++ [V.ref b]))) := k1.trans (.mv (by intro z; cases z))
  have hne : b ≠ D := fun z => by
    rw [z, hcD] at hcb
    exact absurd (Cl.tm.inj (Option.some.inj hcb)) (by omega)
  have hnb : b ∉ as := fun z => by
    have := gr.col b z
    rw [this] at hcb
    exact absurd (Cl.tm.inj (Option.some.inj hcb)) (by omega)
  have cst : ∀ x, c x = some (.tm τ.length) → (c.mv (.tm (τ.length + 1)) (some (.tm τ.length))) x = some (.tm τ.length) := fun x hx => by
    rw [Col.mv_ne]
    · exact hx
    · rw [hx]
      intro z
      exact absurd (Cl.tm.inj (Option.some.inj z)) (by omega)
  refine (h.pop.pop.kp k2 fun j hj b' u hb' hu => ?_).push ⟨D, rfl, cst _ hcD, as ++ [b], by rw [List.map_append]; exact upd_same, ?_, ?_, ?_⟩
  · have hj1 : j ≠ .tm τ.length ∧ j ≠ .tm (τ.length + 1) := by
      rcases hj with ⟨i, rfl, _⟩ | ⟨i, rfl, hi⟩
      · exact ⟨(fun z => nomatch z), (fun z => nomatch z)⟩
      · refine ⟨fun z => ?_, fun z => ?_⟩
        · have := Cl.tm.inj z; omega
        · have := Cl.tm.inj z; omega
    have hbD : b' ≠ D := fun z => by
      rw [z, hcD] at hb'
      exact hj1.1 (Option.some.inj hb').symm
    rw [upd_ne hbD, Col.mv_ne (by rw [hb']; exact fun z => hj1.2 (Option.some.inj z))]
    exact ⟨hu, hb'⟩
  · intro z
    rcases List.mem_append.mp z with q | q
    · exact nD q
    · exact hne (List.mem_singleton.mp q).symm
  · rw [List.nodup_append]
    exact ⟨nd, by simp, fun x hx y hy z => by
      cases List.mem_singleton.mp hy
      exact hnb (z ▸ hx)⟩
  · refine (gr.past k2 nD fun x hx => cst x (gr.col x hx)).snoc (Col.mv_at hcb) (by rw [upd_ne hne]; exact hb) (ib.kp k2)
end
section
variable {X : Cx} {B : Bs} {W : WX}
noncomputable def itLG (g : Tg) (t : M Bool) (m : M R) (vs : List Nat) (oi : Option Nat) (all : List Dt) : List Dt → List (List Dt) → En → Ev (List (List Dt))
  | [], acc, e => if asWas oi all e = true then .ok acc e else .bad
  | d :: ds, acc, e => if asWas oi all e = true then
      match g d (wipeE e vs) with
      | none => .bad
      | some e1 => match t e1 with
        | .ok true e2 => match m e2 with
          | .ok (.tmp (.own (.lst y))) e3 => if small (acc.length + 1) = true then itLG g t m vs oi all ds (acc ++ [y]) e3 else .bad
          | _ => .bad
        | .ok false e2 => itLG g t m vs oi all ds acc e2
        | _ => .bad
    else .bad
noncomputable def mLcG (mi : M It2) (g : Tg) (t : M Bool) (m : M R) (vs : List Nat) : M R := mi.bind fun ds e =>
  if (vs.all fun v => plain e v) = true ∧ (∀ i, ds.2 = some i → i ∉ vs) then
    match itLG g t m vs ds.2 ds.1 ds.1 [] e with
    | .ok acc e' => .ok (.tmp (.own (.grid acc))) (back e e' vs)
    | _ => .bad
  else .bad

theorem lcG_ok {K : PySem.W.Frag} {mg : Str → Option Value} {mi : M It2} {g : Tg} {t : M Bool} {m : M R} {vs sl : List Nat} (hsl : ∀ i ∈ sl, i ∈ vs) (σ : St) (H : Hp) (Q : VK) (h : tV B K mg W (mLcG mi g t m vs) σ H Q) :
    tLc (tIc B K mg W mi) (tG B K g sl) (tT B K mg W0 t) (tV B K mg W0 m) vs σ H Q := by
  obtain ⟨c, e, τ, R, h⟩ := h
  refine ⟨c, e, τ, R, wp_mono (wp_bind h) (fun ds e1 q J υ c1 H1 hsr hown nbu R1 D hD => ?_) fun _ _ q => q⟩
  split at q
  case isFalse => exact q.elim
  rename_i hcond
  obtain ⟨hpl, hni⟩ := hcond
  have hpl' : ∀ v ∈ vs, plain e1 v = true := List.all_eq_true.mp hpl
  cases hit : itLG g t m vs ds.2 ds.1 ds.1 [] e1 with
  | er _ _ => rw [hit] at q; exact q.elim
  | bad => rw [hit] at q; exact q.elim
  | ok accF eF =>
    rw [hit] at q
    obtain ⟨τp, hτp⟩ : ∃ τp, τp = strip τ ++ (υ ++ kept e1 σ vs) := ⟨_, rfl⟩
    have nbp : NoB τp := by rw [hτp]; exact strip_nb.app (nbu.app (kept_nb vs))
    -- what the iterator leans on
    obtain ⟨T, hT, hTR⟩ : ∃ T : Col → Hp → Prop, Src2 K J T ds.1 ∧ ∀ (c2 : Col) (e2 : En) (ρ : List (VL.R × V)) (H2 : Hp), asWas ds.2 ds.1 e2 = true → Rel B K c2 (wipeE e2 vs) (τp ++ ρ) (wipe σ vs) H2 → T c2 H2 := by
      cases ho : ds.2 with
      | none =>
        refine ⟨Tm K υ, (hsr ho).two, fun c2 e2 ρ H2 _ r => ?_⟩
        rw [hτp] at r
        have r' : Rel B K c2 (wipeE e2 vs) (strip τ ++ υ) (wipe σ vs) H2 := by
          have : strip τ ++ (υ ++ kept e1 σ vs) ++ ρ = (strip τ ++ υ) ++ (kept e1 σ vs ++ ρ) := by simp [List.append_assoc]
          rw [this] at r
          exact r.pops
        exact r'.tms
      | some i =>
        obtain ⟨_, a, ha, rfl⟩ := hown i ho
        refine ⟨_, src2_own, fun c2 e2 ρ H2 hw r => ?_⟩
        have hw : lstOf e2[i]? = some ds.1 := by
          unfold asWas at hw
          simpa using hw
        have hi := hni i ho
        have fin : ∀ (o : Ob) (v : V), (∃ a', v = .ref a' ∧ ObAt K c2 H2 (.sl i) a' (.lst ds.1)) → (wipe σ vs)[i]? = some (some v) → ∃ ws, H2 a = some (.lst ws) ∧ Ims K c2 H2 ws ds.1 := fun o v hv hs => by
          rw [wipe_at hi, ha] at hs
          cases hs
          obtain ⟨a', e3, _, ws, g1, g2⟩ := hv
          cases e3
          exact ⟨ws, g1, g2⟩
        unfold lstOf at hw
        split at hw
        · rename_i ds' he
          cases hw
          obtain ⟨v, g1, g2⟩ := r.sl i _ (by rw [wipeE_at hi]; exact he)
          exact fin (.lst ds.1) v g2 g1
        · rename_i ds' he
          cases hw
          obtain ⟨v, g1, g2⟩ := r.sl i _ (by rw [wipeE_at hi]; exact he)
          exact fin (.lst ds.1) v g2 g1
        · cases hw
    have Rk : Rel B K c1 (wipeE e1 vs) τp (wipe σ vs) H1 := by
      have r := R1.keep vs
      rw [List.append_assoc] at r
      have r := r.strip
      rw [← hτp] at r
      exact r.wipe nbp
    have R2 := (Rk.alloc (o := .lst []) (some (.tm τp.length)) hD).push (r := .tmp (.own (.grid []))) (v := .ref D) ⟨D, rfl, Col.set_same, [], upd_same, by simp, .nil, .nil⟩
    refine ⟨fun i m2 H2 => m2 = ds.1.length - i ∧ ∃ c2 e2 acc, Rel B K c2 (wipeE e2 vs) (τp ++ [(.tmp (.own (.grid acc)), .ref D)]) (wipe σ vs) H2 ∧ itLG g t m vs ds.2 ds.1 (ds.1.drop i) acc e2 = .ok accF eF, ⟨_, rfl, _, e1, [], R2, hit⟩, ?_⟩
    rintro i m2 H2 ⟨rfl, c3, e3, acc, R3, hit3⟩
    have nbD : ∀ acc, NoB (τp ++ [(VL.R.tmp (.own (.grid acc)), V.ref D)]) := fun acc => nbp.app NoB.own
    by_cases hlt : i < ds.1.length
    · rw [List.drop_eq_getElem_cons hlt] at hit3
      unfold itLG at hit3
      split at hit3
      case isFalse => cases hit3
      rename_i hw
      have tt := hTR c3 e3 _ H2 hw R3
      refine .inr ⟨hT.go c3 H2 i tt hlt, fun H' => ∃ c2 e2 acc, Rel B K c2 (wipeE e2 vs) (τp ++ [(.tmp (.own (.grid acc)), .ref D)]) (wipe σ vs) H' ∧ itLG g t m vs ds.2 ds.1 (ds.1.drop (i + 1)) acc e2 = .ok accF eF, fun H' hN => ⟨ds.1.length - (i + 1), by omega, rfl, hN⟩, fun x H3 y => ?_⟩
      have n := hT.yld c3 H2 i x H3 tt y ds.1[i] (List.getElem?_eq_getElem hlt)
      obtain ⟨c4, R4, im⟩ := Nw.val R3 n
      cases hgd : g ds.1[i] (wipeE e3 vs) with
      | none => rw [hgd] at hit3; cases hit3
      | some e4 =>
        rw [hgd] at hit3
        refine ⟨c4, wipeE e3 vs, _, ds.1[i], e4, R4, nbD acc, im, hgd, fun σ5 c5 H5 R5 _ x5 => ⟨wipe_eq x5 hsl, c5, e4, _, R5, ?_⟩⟩
        have hσ : wipe σ5 vs = wipe σ vs := wipe_eq x5 hsl
        simp only at hit3
        cases hte : t e4 with
        | bad => rw [hte] at hit3; cases hit3
        | er x e5 => rw [hte] at hit3; cases hit3
        | ok b e5 =>
          rw [hte] at hit3
          cases b with
          | false =>
            intro c6 H6 R6
            rw [if_neg Bool.false_ne_true]
            refine ⟨c6, e5, acc, ?_, hit3⟩
            rw [← hσ]
            exact R6.wipe (nbD acc)
          | true =>
            intro c6 H6 R6
            rw [if_pos rfl]
            refine ⟨c6, e5, _, R6, ?_⟩
            simp only at hit3
            cases hme : m e5 with
            | bad => rw [hme] at hit3; cases hit3
            | er x e6 => rw [hme] at hit3; cases hit3
            | ok r e6 =>
              rw [hme] at hit3
              intro v c7 H7 R7
              cases r with
              | bor _ => cases hit3
              | tmp tv =>
                cases tv with
                | val _ => cases hit3
                | io _ => cases hit3
                | own o =>
                  cases o with
                  | lst y' =>
                    simp only at hit3
                    split at hit3
                    case isFalse => cases hit3
                    rename_i hsm
                    obtain ⟨as, g1, g2, c9, R9⟩ := R7.growG
                    refine ⟨as.map V.ref, g1, ?_, c9, e6, acc ++ [y'], ?_, hit3⟩
                    · rw [List.length_map, g2]
                      exact Nat.lt_of_lt_of_le (Nat.lt_succ_self _) (small_of hsm)
                    · rw [← hσ]
                      exact R9.wipe (nbD _)
                  | _ => cases hit3
    · rw [List.drop_eq_nil_of_le (Nat.le_of_not_lt hlt)] at hit3
      unfold itLG at hit3
      split at hit3
      case isFalse => cases hit3
      rename_i hw
      cases hit3
      refine .inl ⟨hT.stop c3 H2 i (hTR c3 _ _ H2 hw R3) (Nat.le_of_not_lt hlt), ?_⟩
      have hk : Tm K (kept e1 σ vs) c3 H2 := by
        have r := R3.pop
        rw [hτp, ← List.append_assoc] at r
        exact r.tms
      have R4 := Rel.unwipe (R1.pops) R3 (nbD _) hk hpl'
      rw [hτp] at R4
      obtain ⟨c5, R5⟩ := R4.slide
      exact q (.ref D) c5 H2 (R1.pops.unstrip R5)
theorem ve_lcG {elt tg iter : Expr} {ifs : List Expr} {scope : Scope} {own : List (Str × Nat)} {pos : Pos} {mi : M It2} {g : Tg} {t : M Bool} {m : M R} {sl : List Nat} (hc : X.calm = true) (hN : X.N.Nodup) (hi : VIc X B W tg iter mi) (ok : BlkOk X.N X.env.scope scope own)
    (hg : ∀ (s : Shared) (H : Hp) (C : Addr) (cl : List (Str × Addr)) (fp : List Addr), VG (X.blk s H scope (compEnvC scope cl C X.env) fp) B tg g sl) (hsl : ∀ i ∈ sl, i ∈ own.map (·.2))
    (ht : ∀ (s : Shared) (H : Hp) (C : Addr) (cl : List (Str × Addr)) (fp : List Addr), VTs (X.blk s H scope (compEnvC scope cl C X.env) fp) B W0 ifs t)
    (he : ∀ (s : Shared) (H : Hp) (C : Addr) (cl : List (Str × Addr)) (fp : List Addr), VE (X.blk s H scope (compEnvC scope cl C X.env) fp) B W0 elt m) (hs : ∀ x, foldedSetIterable iter X.env x = pure x := by intro _; rfl) :
    VE X B W (.ListComp elt [⟨tg, iter, ifs, 0⟩] scope pos) (mLcG mi g t m (own.map (·.2))) :=
  PE.imp (pe_lc (g := tG B X.K g sl) (tt := tT B X.K X.mg W0 t) (te := tV B X.K X.mg W0 m) hc hN hi ok hg ht he hs) (lcG_ok hsl)
/-- name = [..] on one line -/
theorem vs_setLcG {i : Nat} {y : Str} {py : Pos} {elt tg iter : Expr} {ifs : List Expr} {scope : Scope} {own : List (Str × Nat)} {pos spos : Pos} {mi : M It2} {g : Tg} {t : M Bool} {m : M R} {sl : List Nat} (hc : X.calm = true) (hN : X.N.Nodup) (hy : X.N[i]? = some y) (hyl : X.env.scope.names.lookup y = some .local)
    (hsw : swapsWith (.ListComp elt [⟨tg, iter, ifs, 0⟩] scope pos) (some (.Name y py)) spos.line X.env = pure true) (hi : VIc X B W tg iter mi) (ok : BlkOk X.N X.env.scope scope own)
    (hg : ∀ (s : Shared) (H : Hp) (C : Addr) (cl : List (Str × Addr)) (fp : List Addr), VG (X.blk s H scope (compEnvC scope cl C X.env) fp) B tg g sl) (hsl : ∀ i ∈ sl, i ∈ own.map (·.2))
    (ht : ∀ (s : Shared) (H : Hp) (C : Addr) (cl : List (Str × Addr)) (fp : List Addr), VTs (X.blk s H scope (compEnvC scope cl C X.env) fp) B W0 ifs t)
    (he : ∀ (s : Shared) (H : Hp) (C : Addr) (cl : List (Str × Addr)) (fp : List Addr), VE (X.blk s H scope (compEnvC scope cl C X.env) fp) B W0 elt m) (hs : ∀ x, foldedSetIterable iter X.env x = pure x := by intro _; rfl) :
    VS X B W (.Assign [.Name y py] (.ListComp elt [⟨tg, iter, ifs, 0⟩] scope pos) spos) (sSet i (mLcG mi g t m (own.map (·.2)))) := by
  refine PS.imp (ps_setLc (g := tG B X.K g sl) (tt := tT B X.K X.mg W0 t) (te := tV B X.K X.mg W0 m) hc hN hy hyl hsw hi ok hg ht he hs) fun D σ H h => ?_
  obtain ⟨c, e, τ, r, nb, h⟩ := h
  refine lcG_ok hsl σ H _ ⟨c, e, τ, r, wp_mono (wp_run h) (fun r1 e1 q v c1 H1 R1 => ?_) fun _ _ q => q σ⟩
  cases hsto : sto i r1 e1 with
  | none => rw [hsto] at q; exact q.elim
  | some e2 =>
    rw [hsto] at q
    obtain ⟨c2, R2⟩ := R1.store nb hsto
    exact q _ c2 H1 R2
end
end VL


/-! VM: writes to things of one's own: pots, grids, items of lists; the script. -/
namespace VL
open PySem PySem.Spec L2
open PyProof.Rows hiding St

def putB (e : En) (i : Nat) (o : Ob) : En :=
  match e[i]? with
  | some (some (.io _)) => e.set i (some (.io o))
  | _ => e.set i (some (.own o))
def obOf : Option (Option Tv) → Option Ob
  | some (some (.own o)) => some o
  | some (some (.io o)) => some o
  | _ => none
section
variable {B : Bs} {K : PySem.W.Frag} {c c' : Col} {e : En} {τ : List (R × V)} {σ : St} {H H' : Hp} {i : Nat} {o o' : Ob} {a : Addr}
theorem Rel.ob (h : Rel B K c e τ σ H) (he : obOf e[i]? = some o) : ∃ a, σ[i]? = some (some (.ref a)) ∧ ObAt K c H (.sl i) a o := by
  unfold obOf at he
  split at he
  · rename_i o1 h1
    cases he
    obtain ⟨v, h2, a, rfl, h3⟩ := h.sl i _ h1
    exact ⟨a, h2, h3⟩
  · rename_i o1 h1
    cases he
    obtain ⟨v, h2, a, rfl, h3⟩ := h.sl i _ h1
    exact ⟨a, h2, h3⟩
  · cases he
theorem Rel.reput (h : Rel B K c e τ σ H) (he : obOf e[i]? = some o) (hv : σ[i]? = some (some (.ref a))) (kp : Kp c H c H') (km : ∀ j, j ≠ .sl i → KM j j c H c H') (ho : ObAt K c H' (.sl i) a o') : Rel B K c (putB e i o') τ σ H' := by
  have key : ∀ (t t2 : Tv), e[i]? = some (some t) → ((t2 = .own o' ∧ ∃ o, t = .own o) ∨ (t2 = .io o' ∧ ∃ o, t = .io o)) → Rel B K c (e.set i (some t2)) τ σ H' := fun t t2 he h4 => by
    have hi : i < e.length := (List.getElem?_eq_some_iff.mp he).1
    refine ⟨by rw [List.length_set]; exact h.len, fun j t hj => ?_, fun k r w hk => ?_, fun b u hb n => ?_, h.bs, fun j o hj => ?_, fun P q ht => (h.tb P q ht).kp kp⟩
    · by_cases ij : i = j
      · subst ij
        rw [List.getElem?_set_self hi] at hj
        cases hj
        refine ⟨.ref a, hv, ?_⟩
        rcases h4 with ⟨rfl, _⟩ | ⟨rfl, _⟩ <;> exact ⟨a, rfl, ho⟩
      · rw [List.getElem?_set_ne ij] at hj
        obtain ⟨w, g1, g2⟩ := h.sl j t hj
        exact ⟨w, g1, g2.mv kp (km _ fun z => by cases z; exact ij rfl)⟩
    · exact ((h.tm k r w hk).kp kp (km _ fun z => nomatch z)).envset
    · obtain ⟨g1, e1⟩ := h.fr b u hb n
      obtain ⟨g2, e2⟩ := kp.obj b u g1 (by rw [e1]; exact h.bs b u hb n)
      exact ⟨g2, e2.trans e1⟩
    · by_cases ij : i = j
      · subst ij
        rw [List.getElem?_set_self hi] at hj
        cases hj
        rcases h4 with ⟨z, _⟩ | ⟨_, o2, rfl⟩
        · cases z
        · exact h.io i _ he
      · rw [List.getElem?_set_ne ij] at hj
        exact h.io j o hj
  unfold obOf at he
  unfold putB
  split at he
  · rename_i o1 h1
    rw [h1]
    exact key _ _ h1 (.inl ⟨rfl, _, rfl⟩)
  · rename_i o1 h1
    rw [h1]
    exact key _ _ h1 (.inr ⟨rfl, _, rfl⟩)
  · cases he
end
def intsD (cs : List Int) : Dt := .list (cs.map PyData.int)
theorem Vw.pot0 {K : PySem.W.Frag} {c : Col} {H : Hp} {b : Addr} {cs : List Int} (h : H b = some (.lst (cs.map V.int))) : Vw K c H (.ref b) (intsD cs) := .lst h (Ims.ints cs)
section
variable {X : Cx} {B : Bs} {W : WX}
/-! ### pots -/
/-- pot[1], pot[2] -/
def mPotI (i : Nat) (k : Int) : M R := fun e => match obOf e[i]? with
  | some (.pot _ m t) => if k = 1 then .ok (.tmp (.val (.int m))) e else if k = 2 then .ok (.tmp (.val (.int t))) e else .bad
  | _ => .bad
theorem ve_potI {i : Nat} {x : Str} {k : Int} {j : Nat} {p p2 pos : Pos} (hN : X.N[i]? = some x) (hv : Vis X.env.scope x) (hd : (x == ("__debug__" : Str)) = false := by decide) (hcd : (x == ("__classdict__" : Str)) = false := by decide)
    (hs : PlainIx (.Constant (.int k) j p2) := by exact fun _ _ => rfl) : VE X B W (.Subscript (.Name x p) (.Constant (.int k) j p2) pos) (mPotI i k) := by
  refine PE.imp (pe_ix ix_list (pe_var hN hv hd hcd) pe_int hs) fun σ H Q h => ?_
  obtain ⟨c, e, τ, R, h⟩ := h
  unfold mPotI at h
  cases ho : obOf e[i]? with
  | none => rw [ho] at h; exact h.elim
  | some o =>
    rw [ho] at h
    cases o with
    | pot cs m t =>
      obtain ⟨a, hv, hc, b, hb, hcb, h1, h2⟩ := R.ob ho
      simp only at h
      split at h
      · rename_i hk
        subst hk
        exact ⟨_, hv, a, _, 1, _, rfl, rfl, .inl (.inl h1), rfl, h _ c H (R.push (r := .tmp (.val (.int m))) (Im.int m))⟩
      · split at h
        · rename_i hk
          subst hk
          exact ⟨_, hv, a, _, 2, _, rfl, rfl, .inl (.inl h1), rfl, h _ c H (R.push (r := .tmp (.val (.int t))) (Im.int t))⟩
        · exact h.elim
    | _ => exact h.elim
/-- pot[0] != [] -/
def mPotNe (i : Nat) : M Bool := fun e => match obOf e[i]? with
  | some (.pot cs _ _) => if SeqAt.shaped (intsD cs) = true then .ok (!PyData.eqv (intsD cs) (.list [])) e else .bad
  | _ => .bad
theorem vt_potNe {i : Nat} {x : Str} {j : Nat} {p p2 p3 p4 pos : Pos} (hu : X.A.units + 64 < cLine) (hN : X.N[i]? = some x) (hv : Vis X.env.scope x) (hd : (x == ("__debug__" : Str)) = false := by decide) (hcd : (x == ("__classdict__" : Str)) = false := by decide)
    (hs : PlainIx (.Constant (.int 0) j p2) := by exact fun _ _ => rfl) (hm : behindInMarks .NotEq (.List [] p4) = false := by rfl) :
    VT X B W (.Compare (.Subscript (.Name x p) (.Constant (.int 0) j p2) p3) [.NotEq] [.List [] p4] pos) (mPotNe i) := by
  refine PT.imp (pt_cmpR (op_neD hu) (pe_ix ix_list (pe_var hN hv hd hcd) pe_int hs) (pe_lst pa_nil) hm) fun σ H Q h => ?_
  obtain ⟨c, e, τ, R, h⟩ := h
  unfold mPotNe at h
  cases ho : obOf e[i]? with
  | none => rw [ho] at h; exact h.elim
  | some o =>
    rw [ho] at h
    cases o with
    | pot cs m t =>
      obtain ⟨a, hv, hc, b, hb, hcb, h1, h2⟩ := R.ob ho
      simp only at h
      split at h
      · rename_i hsh
        refine ⟨_, hv, a, _, 0, _, rfl, rfl, .inl (.inl h1), rfl, Nat.zero_le _, fun q hq => ⟨intsD cs, .list [], ?_, ?_, hsh, rfl, _, rfl, ?_⟩⟩
        · have hbq : b ≠ q := fun z => by rw [z, hq] at h2; cases h2
          exact (Vw.pot0 (c := c) (by rw [upd_ne hbq]; exact h2)).dp (SeqAt.canLay_of_shaped hsh)
        · exact Dp.lst (.inl (.inl upd_same)) .nil
        · obtain ⟨c1, R1⟩ := R.new (t := .own (.lst [])) (v := .ref q) (H' := upd H q (.lst [])) ⟨q, [], rfl, hq, rfl, .nil⟩
          exact h c1 _ R1.pop
      · exact h.elim
    | _ => exact h.elim
/-- pot[0].pop() -/
def mPotPop (i : Nat) : M R := fun e => match obOf e[i]? with
  | some (.pot cs m t) => match cs[cs.length - 1]? with
    | some x => .ok (.tmp (.val (.int x))) (putB e i (.pot cs.dropLast m t))
    | none => .bad
  | _ => .bad
theorem Rel.pot0 {c : Col} {e : En} {τ : List (R × V)} {σ : St} {H : Hp} {i : Nat} {cs cs' : List Int} {m t : Int} (R : Rel B X.K c e τ σ H) (ho : obOf e[i]? = some (.pot cs m t)) :
    ∃ a b, σ[i]? = some (some (.ref a)) ∧ H a = some (.lst [.ref b, .int m, .int t]) ∧ H b = some (.lst (cs.map V.int)) ∧ Rel B X.K c (putB e i (.pot cs' m t)) τ σ (upd H b (.lst (cs'.map V.int))) := by
  obtain ⟨a, hv, hc, b, hb, hcb, h1, h2⟩ := R.ob ho
  exact ⟨a, b, hv, h1, h2, R.reput ho hv (.wr (by intro z; cases z) hcb h2 (.inl ⟨_, rfl⟩)) (fun j hj => .wr hcb hj) ⟨hc, b, hb, hcb, by rw [upd_ne (Ne.symm hb)]; exact h1, upd_same⟩⟩
theorem ve_potPop {i : Nat} {x : Str} {j : Nat} {p p2 p3 apos cpos : Pos} (hN : X.N[i]? = some x) (hv : Vis X.env.scope x) (hd : (x == ("__debug__" : Str)) = false := by decide) (hcd : (x == ("__classdict__" : Str)) = false := by decide)
    (hs : PlainIx (.Constant (.int 0) j p2) := by exact fun _ _ => rfl)
    (hbase : attributeBase (.Subscript (.Name x p) (.Constant (.int 0) j p2) p3) "pop" X.env (eval (.Subscript (.Name x p) (.Constant (.int 0) j p2) p3) X.env) = eval (.Subscript (.Name x p) (.Constant (.int 0) j p2) p3) X.env := by rfl)
    (hline : (apos.endLine == cpos.line) = true := by rfl) : VE X B W (.Call (.Attribute (.Subscript (.Name x p) (.Constant (.int 0) j p2) p3) "pop" apos) [] [] cpos) (mPotPop i) := by
  refine PE.imp (pe_bm0 PySem.F.plainAttrs_list PySem.F.slot_list_pop PySem.F.type_list_pop mt_pop (pe_ix ix_list (pe_var hN hv hd hcd) pe_int hs) hbase hline) fun σ H Q h => ?_
  obtain ⟨c, e, τ, R, h⟩ := h
  unfold mPotPop at h
  cases ho : obOf e[i]? with
  | none => rw [ho] at h; exact h.elim
  | some o =>
    rw [ho] at h
    cases o with
    | pot cs m t =>
      simp only at h
      cases hx : cs[cs.length - 1]? with
      | none => rw [hx] at h; exact h.elim
      | some y =>
        rw [hx] at h
        obtain ⟨a, b, hv, h1, h2, R1⟩ := R.pot0 (cs' := cs.dropLast) ho
        refine ⟨_, hv, a, _, 0, _, rfl, rfl, .inl (.inl h1), rfl, .inl ⟨rfl, _, .inl (.inl h2)⟩, b, cs.map V.int, .int y, rfl, rfl, h2, by rw [List.length_map, List.getElem?_map, hx]; rfl, ?_⟩
        rw [← List.map_dropLast]
        exact h _ c _ (R1.push (r := .tmp (.val (.int y))) (Im.int y))
    | _ => exact h.elim
/-- pot[0].append(x // y) -/
def intAt (e : En) (i : Nat) : Option Int := match e[i]? with
  | some (some (.val (.int k))) => some k
  | _ => none
def mPotApp (i u v : Nat) : M R := fun e => match obOf e[i]?, intAt e u, intAt e v with
  | some (.pot cs m t), some x, some y => if cs.length < 16777216 ∧ 0 < y ∧ y < 1073741824 then .ok (.tmp (.val .none)) (putB e i (.pot (cs ++ [x / y]) m t)) else .bad
  | _, _, _ => .bad
theorem Rel.intAt {K : PySem.W.Frag} {c : Col} {e : En} {τ : List (R × V)} {σ : St} {H : Hp} {i : Nat} {k : Int} (R : Rel B K c e τ σ H) (h : VL.intAt e i = some k) : σ[i]? = some (some (.int k)) := by
  unfold VL.intAt at h
  split at h
  · rename_i k' hk
    cases h
    obtain ⟨v, h1, h2⟩ := R.sl i _ hk
    cases (show Im K c H v (.int k) from h2)
    exact h1
  · cases h
theorem ve_potApp {i u v : Nat} {x y z : Str} {j : Nat} {p p2 p3 p4 p5 p6 apos cpos : Pos} (hN : X.N[i]? = some x) (hv : Vis X.env.scope x) (hNu : X.N[u]? = some y) (hvu : Vis X.env.scope y) (hNv : X.N[v]? = some z) (hvv : Vis X.env.scope z)
    (hd : (x == ("__debug__" : Str)) = false := by decide) (hcd : (x == ("__classdict__" : Str)) = false := by decide) (hdy : (y == ("__debug__" : Str)) = false := by decide) (hcdy : (y == ("__classdict__" : Str)) = false := by decide) (hdz : (z == ("__debug__" : Str)) = false := by decide) (hcdz : (z == ("__classdict__" : Str)) = false := by decide)
    (hs : PlainIx (.Constant (.int 0) j p2) := by exact fun _ _ => rfl)
    (hbase : attributeBase (.Subscript (.Name x p) (.Constant (.int 0) j p2) p3) "append" X.env (eval (.Subscript (.Name x p) (.Constant (.int 0) j p2) p3) X.env) = eval (.Subscript (.Name x p) (.Constant (.int 0) j p2) p3) X.env := by rfl)
    (hfew : ((backTo cpos (starEach [.BinOp (.Name y p4) .FloorDiv (.Name z p5) p6] X.env)).all (fun x => !x.1) && (backToKw cpos (keywordEach [] X.env)).all (fun x => x.1.isSome)
      && decide ([Expr.BinOp (.Name y p4) .FloorDiv (.Name z p5) p6].length + ([] : List Keyword).length + (if ([] : List Keyword).isEmpty then 0 else 1) < 30)) = true := by rfl)
    (hline : (apos.endLine == cpos.line) = true := by rfl) (hst : starEach [.BinOp (.Name y p4) .FloorDiv (.Name z p5) p6] X.env = (false, eval (.BinOp (.Name y p4) .FloorDiv (.Name z p5) p6) X.env) :: starEach [] X.env := by rfl) (hplain : (backTo cpos (starEach [] X.env)).any (·.1) = false := by rfl) :
    VE X B W (.Call (.Attribute (.Subscript (.Name x p) (.Constant (.int 0) j p2) p3) "append" apos) [.BinOp (.Name y p4) .FloorDiv (.Name z p5) p6] [] cpos) (mPotApp i u v) := by
  refine PE.imp (pe_bm PySem.F.plainAttrs_list PySem.F.slot_list_append PySem.F.type_list_append mt_append (pe_ix ix_list (pe_var hN hv hd hcd) pe_int hs) (pa_one (pe_op op_fdiv (pe_var hNu hvu hdy hcdy) (pe_var hNv hvv hdz hcdz)) hst) hbase hfew hline hst hplain) fun σ H Q h => ?_
  obtain ⟨c, e, τ, R, h⟩ := h
  unfold mPotApp at h
  split at h
  · rename_i cs m t x1 y1 ho hu hv2
    split at h
    · rename_i hz
      obtain ⟨a, b, hv, h1, h2, R1⟩ := R.pot0 (cs' := cs ++ [x1 / y1]) ho
      refine ⟨_, hv, a, _, 0, _, rfl, rfl, .inl (.inl h1), rfl, .inl ⟨rfl, _, .inl (.inl h2)⟩, _, R.intAt hu, _, R.intAt hv2, x1, y1, rfl, rfl, hz.2, b, cs.map V.int, .int (x1 / y1), rfl, rfl, h2, by rw [List.length_map]; exact sizeLine_lt hz.1, ?_⟩
      have e1 : cs.map V.int ++ [V.int (x1 / y1)] = (cs ++ [x1 / y1]).map V.int := by simp
      rw [e1]
      exact h _ c _ (R1.push (r := .tmp (.val .none)) Im.non)
    · exact h.elim
  · exact h.elim
/-- pot[2] = e -/
def sPotSet (i : Nat) (m : M R) : S := S.run (m.bind fun r => (look r).bind fun d => M.of (asInt d)) fun y e => match obOf e[i]? with
  | some (.pot cs m _) => .nx (putB e i (.pot cs m y))
  | _ => .bad
theorem vs_potSet {i : Nat} {x : Str} {j : Nat} {a : Expr} {ma : M R} {p p2 p3 pos : Pos} (hN : X.N[i]? = some x) (hv : Vis X.env.scope x) (ha : VE X B W a ma) (hd : (x == ("__debug__" : Str)) = false := by decide) (hcd : (x == ("__classdict__" : Str)) = false := by decide)
    (hs : swapsWithSole [.Subscript (.Name x p) (.Constant (.int 2) j p2) p3] a pos.line X.env = pure false := by rfl) (hw : swappedStores [.Subscript (.Name x p) (.Constant (.int 2) j p2) p3] a X.env = pure none := by rfl) :
    VS X B W (.Assign [.Subscript (.Name x p) (.Constant (.int 2) j p2) p3] a pos) (sPotSet i ma) := by
  refine PS.imp (ps_asg ha (pg_sub (pe_var hN hv hd hcd) pe_int set_list) hs hw) fun D σ H h => ?_
  obtain ⟨c, e, τ, R, nb, h⟩ := h
  refine ⟨c, e, τ, R, wp_mono (wp_bind (wp_run h)) (fun r1 e1 q v c1 H1 R1 => ?_) fun _ _ q => q σ⟩
  obtain ⟨d, hd, q⟩ := wp_look (wp_bind q)
  obtain ⟨y, hy, q2⟩ := wp_of q
  clear q
  have w := R1.vw R1.top hd
  cases d with
  | int i' =>
    cases hy
    cases w.int
    have q := q2
    cases ho : obOf e1[i]? with
    | none => rw [ho] at q; exact q.elim
    | some o =>
      rw [ho] at q
      cases o with
      | pot cs m t =>
        obtain ⟨a, hv, hc, b, hb, hcb, h1, h2⟩ := R1.ob ho
        refine ⟨_, hv, a, _, 2, 2, rfl, rfl, h1, rfl, q σ c1 _ (R1.pop.reput ho hv (.wr (by intro z; cases z) hc h1 (.inl ⟨_, rfl⟩)) (fun j hj => .wr hc hj) ⟨hc, b, hb, hcb, upd_same, by rw [upd_ne hb]; exact h2⟩)⟩
      | _ => exact q.elim
  | _ => cases hy

/-! ### the script -/
theorem scr_seq {K : PySem.W.Frag} {c : Col} {H : Hp} {i : Cl} {a : Addr} {ns : List Int} (h : ObAt K c H i a (.scr ns)) : SqL K H a (ns.map V.int) := by
  rcases h with ⟨o, h⟩ | h
  · exact .inl (.inr ⟨o, h⟩)
  · rcases h with (z | ⟨_, z⟩) | z
    · cases z
    · cases z
    · exact .inr z
/-- script[:n] -/
def mScr (i : Nat) (n : Int) : M R := fun e => match obOf e[i]? with
  | some (.scr ns) => .ok (.tmp (.own (.lst (cutD (ns.map PyData.int) none (some n))))) e
  | _ => .bad
theorem ve_scr {i : Nat} {x : Str} {n : Int} {j : Nat} {p p2 p3 pos : Pos} (hN : X.N[i]? = some x) (hv : Vis X.env.scope x) (hd : (x == ("__debug__" : Str)) = false := by decide) (hcd : (x == ("__classdict__" : Str)) = false := by decide) :
    VE X B W (.Subscript (.Name x p) (.Slice none (some (.Constant (.int n) j p2)) none p3) pos) (mScr i n) := by
  refine PE.imp (pe_slice sl_list (pe_var hN hv hd hcd) po_none (po_some pe_int)) fun σ H Q h => ?_
  obtain ⟨c, e, τ, R, h⟩ := h
  unfold mScr at h
  cases ho : obOf e[i]? with
  | none => rw [ho] at h; exact h.elim
  | some o =>
    rw [ho] at h
    cases o with
    | scr ns =>
      obtain ⟨a, hv, h1⟩ := R.ob ho
      refine ⟨_, hv, n, rfl, a, ns.map V.int, rfl, scr_seq h1, fun q hq => ?_⟩
      obtain ⟨c1, R1⟩ := R.new (t := .own (.lst (cutD (ns.map PyData.int) none (some n)))) (v := .ref q) (H' := upd H q (.lst (cutV (ns.map V.int) none (some n)))) ⟨q, _, rfl, hq, rfl, (Ims.ints ns).cut _ _⟩
      exact h _ c1 _ R1
    | _ => exact h.elim
def mScrLen (i : Nat) : M R := fun e => match obOf e[i]? with
  | some (.scr ns) => .ok (.tmp (.val (.int ns.length))) e
  | _ => .bad
theorem ve_scrLen {i : Nat} {x : Str} {p p2 pos : Pos} (hN : X.N[i]? = some x) (hv : Vis X.env.scope x) (hg : Gl X "len") (hm : X.mg "len" = none) (hb : bootBuiltins "len" = some (.builtin "len")) (hd : (x == ("__debug__" : Str)) = false := by decide) (hcd : (x == ("__classdict__" : Str)) = false := by decide)
    (he : starEach [.Name x p] X.env = (false, eval (.Name x p) X.env) :: starEach [] X.env := by rfl) (hpl : (backTo pos (starEach [] X.env)).any (·.1) = false := by rfl) :
    VE X B W (.Call (.Name "len" p2) [.Name x p] [] pos) (mScrLen i) := by
  refine PE.imp (pe_callB call_len_seq hg hm hb (pa_one (pe_var hN hv hd hcd) he) (by decide) (by decide) he hpl) fun σ H Q h => ?_
  obtain ⟨c, e, τ, R, h⟩ := h
  unfold mScrLen at h
  cases ho : obOf e[i]? with
  | none => rw [ho] at h; exact h.elim
  | some o =>
    rw [ho] at h
    cases o with
    | scr ns =>
      obtain ⟨a, hv, h1⟩ := R.ob ho
      refine ⟨_, hv, a, ns.map V.int, rfl, .inl (scr_seq h1), ?_⟩
      rw [List.length_map]
      exact h _ c _ (R.push (r := .tmp (.val (.int ns.length))) (Im.int _))
    | _ => exact h.elim

/-! ### items of a list of one's own -/
/-- x[e] = v -/
def sItem1 (i : Nat) (d : Dt) (k : Int) : S := fun e => match obOf e[i]? with
  | some (.lst ds) => match ixN ds.length k with
    | some j => .nx (putB e i (.lst (ds.set j d)))
    | none => .bad
  | _ => .bad
def sItem (i : Nat) (mi mv : M R) : S := S.run (mv.bind frz) fun d e => match obOf e[i]? with
  | some _ => (S.run (mi.bind fun r => (look r).bind fun k => M.of (asInt k)) fun k => sItem1 i d k) e
  | none => .bad
theorem vs_item {i : Nat} {x : Str} {ei ev : Expr} {mi mv : M R} {p p2 pos : Pos} (hN : X.N[i]? = some x) (hv : Vis X.env.scope x) (hi : VE X B W ei mi) (he : VE X B W ev mv) (hd : (x == ("__debug__" : Str)) = false := by decide) (hcd : (x == ("__classdict__" : Str)) = false := by decide)
    (ha : ∀ v, assign (.Subscript (.Name x p) ei p2) X.env v = (do
      let ov ← holding [v] (eval (.Name x p) X.env)
      let iv ← holding [v, ov] (eval ei X.env)
      standAt p2
      holding [v, ov, iv] (setItem ov iv v)
      release [v, ov, iv] []) := by intro _; rfl)
    (hs : swapsWithSole [.Subscript (.Name x p) ei p2] ev pos.line X.env = pure false := by rfl) (hw : swappedStores [.Subscript (.Name x p) ei p2] ev X.env = pure none := by rfl) :
    VS X B W (.Assign [.Subscript (.Name x p) ei p2] ev pos) (sItem i mi mv) := by
  refine PS.imp (ps_asg he (pg_sub (pe_var hN hv hd hcd) hi set_list ha) hs hw) fun D σ H h => ?_
  obtain ⟨c, e, τ, R, nb, h⟩ := h
  refine ⟨c, e, τ, R, wp_mono (wp_bind (wp_run h)) (fun r1 e1 q v c1 H1 R1 => ?_) fun _ _ q => q σ⟩
  obtain ⟨d, e2, hf, q⟩ := wp_frz q
  obtain ⟨c2, R2⟩ := R1.fzTop hf
  cases ho : obOf e2[i]? with
  | none => rw [ho] at q; exact q.elim
  | some o =>
    rw [ho] at q
    obtain ⟨a, hv, _⟩ := R2.ob ho
    refine ⟨_, hv, c2, e2, _, R2, wp_mono (wp_bind (wp_run q)) (fun r3 e3 q3 w c3 H3 R3 => ?_) fun x e q => ErrW.more (q σ)⟩
    obtain ⟨k, hk, q4⟩ := wp_look (wp_bind q3)
    obtain ⟨k', hk', q5⟩ := wp_of q4
    have w2 := R3.vw R3.top hk
    cases k with
    | int i' =>
      have ek : k' = i' := (Option.some.inj hk').symm
      subst ek
      cases w2.int
      unfold sItem1 at q5
      cases ho3 : obOf e3[i]? with
      | none => rw [ho3] at q5; exact q5.elim
      | some o3 =>
        rw [ho3] at q5
        cases o3 with
        | lst ds =>
          simp only at q5
          cases hx : ixN ds.length k' with
          | none => rw [hx] at q5; exact q5.elim
          | some j =>
            rw [hx] at q5
            obtain ⟨a3, hv3, hc, vs, h1, h2⟩ := R3.ob ho3
            rw [hv] at hv3
            cases hv3
            have im : Im X.K c3 H3 v d := R3.pop.top
            have kp : Kp c3 H3 c3 (upd H3 a (.lst (vs.set j v))) := .wr (by intro z; cases z) hc h1 (.inl ⟨_, rfl⟩)
            exact ⟨a, vs, k', j, rfl, rfl, h1, by rw [h2.length]; exact hx, q5 σ c3 _ (R3.pop.pop.reput ho3 hv kp (fun j hj => .wr hc hj) ⟨hc, _, upd_same, (h2.set im j).kp kp⟩)⟩
        | _ => exact q5.elim
    | _ => cases hk'

/-! ### items of a grid -/
/-- table[i][j] = d, the indices in slots -/
def gGrid (i u v : Nat) : Tg := fun d e => match obOf e[i]?, intAt e u, intAt e v with
  | some (.grid rows), some x, some y => match ixN rows.length x with
    | some a => match rows[a]? with
      | some ds => match ixN ds.length y with
        | some b => some (putB e i (.grid (rows.set a (ds.set b d))))
        | none => none
      | none => none
    | none => none
  | _, _, _ => none
theorem Gr.get {K : PySem.W.Frag} {c : Col} {H : Hp} {i : Cl} : ∀ {as : List Addr} {rs : List (List Dt)} {n : Nat} {ds : List Dt}, Gr K c H i as rs → rs[n]? = some ds → ∃ b vs, as[n]? = some b ∧ c b = some i ∧ H b = some (.lst vs) ∧ Ims K c H vs ds
  | _, _, _, _, .nil, e => by simp at e
  | _, _, 0, _, .cons h1 h2 h3 _, e => by simp at e; subst e; exact ⟨_, _, rfl, h1, h2, h3⟩
  | _, _, n + 1, _, .cons _ _ _ h4, e => by
    obtain ⟨b, vs, g⟩ := Gr.get (n := n) h4 (by simpa using e)
    exact ⟨b, vs, by simpa using g.1, g.2⟩
theorem Gr.set {K : PySem.W.Frag} {c : Col} {H : Hp} {i : Cl} {b : Addr} {vs : List V} {ds : List Dt} (k : Kp c H c (upd H b (.lst vs))) (hc : c b = some i) (im : Ims K c H vs ds) : ∀ {as : List Addr} {rs : List (List Dt)} {n : Nat}, as.Nodup → Gr K c H i as rs → as[n]? = some b → Gr K c (upd H b (.lst vs)) i as (rs.set n ds)
  | _, _, _, _, .nil, e => by simp at e
  | _, _, 0, nd, .cons h1 h2 h3 h4, e => by
    simp at e
    subst e
    rw [List.nodup_cons] at nd
    exact .cons h1 upd_same (im.kp k) (h4.past k nd.1 fun x hx => h4.col x hx)
  | b' :: _, _, n + 1, nd, .cons h1 h2 h3 h4, e => by
    rw [List.nodup_cons] at nd
    have e' : _ := (show _ = some b by simpa using e)
    have hne : b' ≠ b := fun z => nd.1 (by rw [z]; exact List.mem_of_getElem? e')
    exact .cons h1 (by rw [upd_ne hne]; exact h2) (h3.kp k) (Gr.set k hc im nd.2 h4 e')
theorem vg_grid {i u v : Nat} {x y z : Str} {p p2 p3 p4 p5 : Pos} (hN : X.N[i]? = some x) (hv : Vis X.env.scope x) (hNu : X.N[u]? = some y) (hvu : Vis X.env.scope y) (hNv : X.N[v]? = some z) (hvv : Vis X.env.scope z)
    (hd : (x == ("__debug__" : Str)) = false := by decide) (hcd : (x == ("__classdict__" : Str)) = false := by decide) (hdy : (y == ("__debug__" : Str)) = false := by decide) (hcdy : (y == ("__classdict__" : Str)) = false := by decide) (hdz : (z == ("__debug__" : Str)) = false := by decide) (hcdz : (z == ("__classdict__" : Str)) = false := by decide)
    (hs : PlainIx (.Name y p2) := by exact fun _ _ => rfl) : VG X B (.Subscript (.Subscript (.Name x p) (.Name y p2) p3) (.Name z p4) p5) (gGrid i u v) [] := by
  refine PG.imp (pg_sub (pe_ix ix_list (pe_var hN hv hd hcd) (pe_var hNu hvu hdy hcdy) hs) (pe_var hNv hvv hdz hcdz) set_list) fun w σ H Q h => ?_
  obtain ⟨c, e, τ, d, e', R, nb, im, hg, q⟩ := h
  unfold gGrid at hg
  split at hg
  · rename_i rows x1 y1 ho hu hw
    split at hg
    · rename_i a1 hx1
      split at hg
      · rename_i ds hds
        split at hg
        · rename_i b1 hy1
          cases hg
          obtain ⟨a, hv, hc, as, h1, h2, h3, h4⟩ := R.ob ho
          obtain ⟨b, vs, g1, g2, g3, g4⟩ := h4.get hds
          have kp : Kp c H c (upd H b (.lst (vs.set b1 w))) := .wr (by intro z; cases z) g2 g3 (.inl ⟨_, rfl⟩)
          have hba : a ≠ b := fun z => h2 (by rw [z]; exact List.mem_of_getElem? g1)
          refine ⟨_, hv, _, R.intAt hu, a, as.map V.ref, x1, .ref b, rfl, rfl, .inl (.inl h1), ?_, _, R.intAt hw, b, vs, y1, b1, rfl, rfl, g3, by rw [g4.length]; exact hy1, ?_⟩
          · unfold L2.atI
            rw [List.length_map, h4.length, hx1]
            show (as.map V.ref)[a1]? = _
            rw [List.getElem?_map, g1]
            rfl
          · refine q σ c _ (R.reput ho hv kp (fun j hj => .wr g2 hj) ⟨hc, as, by rw [upd_ne hba]; exact h1, h2, h3, Gr.set kp g2 (g4.set im b1) h3 h4 g1⟩) kp .refl
        · cases hg
      · cases hg
    · cases hg
  · cases hg
end
end VL


/-! VN: calls by what is known of a callee; list(range(..)); a module's constants. -/
namespace VL
open PySem PySem.Spec L2
open PyProof.Rows hiding St

/-- what is known of a def that is called by its name -/
def Cal (P : Program) (w : World) (K : PySem.W.Frag) (mg : Str → Option Value) (base : Heap) (k : Nat) (x : Str) (ps : List Str) (F : Fn) : Prop :=
  ∃ (f : Addr) (fd : FuncData), FnOk P w K mg base (L2.CX P w) k f fd ps (FnSem K mg F) ∧ mg x = some (.ref f) ∧ PySem.W.keepIn K (.ref f) = true ∧ Binds K fd ps []
section
variable {X : Cx} {B : Bs} {W : WX}
theorem ve_callC {k j : Nat} {ps : List Str} {F : Fn} {x : Str} {a : Expr} {es : List Expr} {ms : M (List R)} {p pos : Pos} (io : Option Nat) (fa : Bool) (C : Cal X.prog X.w X.K X.mg X.base k x ps F) (hr : Room j X.A) (tk : Takes X W) (ha : VA X B W (a :: es) ms) (hkj : k ≤ j := by decide) (hg : Gl X x := by rfl)
    (hdb : (x == ("__debug__" : Str)) = false := by decide) (he : starEach (a :: es) X.env = (false, eval a X.env) :: starEach es X.env := by rfl)
    (hpl : (backTo pos (starEach es X.env)).any (·.1) = false := by rfl) : VE X B W (.Call (.Name x p) (a :: es) [] pos) (mCall F io fa ms) := by
  obtain ⟨f, fd, G, hm, hk, hb⟩ := C
  exact ve_call io fa G (hr.mono hkj) hg hm hk hb tk ha hdb he hpl
/-- list(range(n)) -/
def fRgL : Int → Int → Option Tv := fun a b => if big62 a = true ∧ big62 b = true ∧ small (b - a).toNat = true then some (.own (.lst (rgs a (b - a).toNat))) else none
theorem Ims.rgs {K : PySem.W.Frag} {c : Col} {H : Hp} (a b : Int) : Ims K c H (rgV a b) (VL.rgs a (b - a).toNat) := by
  unfold rgV VL.rgs
  generalize (b - a).toNat = n
  induction List.range n with
  | nil => exact .nil
  | cons x xs ih => exact .cons (.int _) ih
def mRgL1 (m : M R) : M R := m.bind fun r => (look r).bind fun d => (M.of (asInt d)).bind fun n => (M.of (fRgL 0 n)).bind fun t => M.ret (.tmp t)
theorem ve_rgL1 {a : Expr} {m : M R} {p p2 p3 pos : Pos} (hc : X.calm = true) (hl : X.mg "list" = none) (hm : X.mg "range" = none) (ha : VE X B W a m) (hg : Gl X "list" := by rfl) (hg2 : Gl X "range" := by rfl) (na : starEach [a] X.env = (false, eval a X.env) :: starEach [] X.env := by rfl)
    (nb : starEach [.Call (.Name "range" p2) [a] [] p3] X.env = (false, eval (.Call (.Name "range" p2) [a] [] p3) X.env) :: starEach [] X.env := by rfl) :
    VE X B W (.Call (.Name "list" p) [.Call (.Name "range" p2) [a] [] p3] [] pos) (mRgL1 m) := by
  refine PE.imp (pe_listRg hc hg hl (prg_1 hg2 hm ha na) nb) fun σ H Q h => ?_
  obtain ⟨c, e, τ, R, h⟩ := h
  refine ⟨c, e, τ, R, wp_mono (wp_bind h) (fun r1 e1 q v c1 H1 R1 => ?_) fun _ _ q => q⟩
  obtain ⟨d, hd, q⟩ := wp_look (wp_bind q)
  obtain ⟨n, hn, q⟩ := wp_of (wp_bind q)
  obtain ⟨t, ht, q⟩ := wp_of (wp_bind q)
  have w := R1.vw R1.top hd
  cases d with
  | int i =>
    have e0 : n = i := (Option.some.inj hn).symm
    subst e0
    unfold fRgL at ht
    split at ht
    · rename_i hz
      cases ht
      obtain ⟨b1, b2⟩ := big62_of hz.1
      obtain ⟨b3, b4⟩ := big62_of hz.2.1
      refine ⟨n, w.int, ⟨b1, b2, b3, b4, ?_⟩, fun l hl => ?_⟩
      · have := of_decide_eq_true hz.2.2
        omega
      · obtain ⟨c2, R2⟩ := R1.pop.new (t := .own (.lst (rgs 0 (n - 0).toNat))) (v := .ref l) ⟨l, _, rfl, hl, rfl, Ims.rgs 0 n⟩
        exact q _ c2 _ R2
    · cases ht
  | _ => cases hn
theorem ve_gint {x : Str} {i : Int} {pos : Pos} (hm : ∃ t, X.mg x = some (.int i t)) (hg : Gl X x := by rfl) (hd : (x == ("__debug__" : Str)) = false := by decide) : VE X B W (.Name x pos) (mDat (.int i)) := by
  obtain ⟨t, hm⟩ := hm
  exact ve_glob (v := .int i) hg hm ⟨t, rfl⟩ (fun _ _ => .int i) hd
/-! ### a pot is made -/
def asInts : List Dt → Option (List Int)
  | [] => some []
  | .int i :: ds => (asInts ds).map (i :: ·)
  | _ => none
theorem Ims.asInts {K : PySem.W.Frag} {c : Col} {H : Hp} : ∀ {vs : List V} {ds : List Dt} {ns : List Int}, Ims K c H vs ds → VL.asInts ds = some ns → vs = ns.map V.int
  | _, _, _, .nil, e => by cases e; rfl
  | _, .int i :: ds, ns, .cons (.int _) hs, e => by
    unfold VL.asInts at e
    simp only [Option.map_eq_some_iff] at e
    obtain ⟨ms, h1, rfl⟩ := e
    rw [hs.asInts h1]
    rfl
  | _, .none :: _, _, _, e => by cases e
  | _, .bool _ :: _, _, _, e => by cases e
  | _, .str _ :: _, _, _, e => by cases e
  | _, .tuple _ :: _, _, _, e => by cases e
  | _, .list _ :: _, _, _, e => by cases e
  | _, .dict _ :: _, _, _, e => by cases e
/-- [a list of ints, an int, an int] -/
def mPotNew (ms : M (List R)) : M R := ms.bind fun rs => match rs with
  | [.tmp (.own (.lst ds)), .tmp (.val (.int m)), .tmp (.val (.int t))] => match asInts ds with
    | some cs => M.ret (.tmp (.own (.pot cs m t)))
    | none => fun _ => .bad
  | _ => fun _ => .bad
theorem ve_potNew {es : List Expr} {ms : M (List R)} {pos : Pos} (h : VA X B W es ms) : VE X B W (.List es pos) (mPotNew ms) := by
  refine PE.imp (pe_lst h) fun σ H Q h => ?_
  obtain ⟨c, e, τ, R, h⟩ := h
  refine ⟨c, e, τ, R, wp_mono (wp_bind h) (fun rs e1 h1 vs c1 H1 hl R1 => ?_) fun _ _ q => q⟩
  split at h1
  · rename_i ds m t
    cases hcs : asInts ds with
    | none => rw [hcs] at h1; exact h1.elim
    | some cs =>
      rw [hcs] at h1
      match vs, hl with
      | [v1, v2, v3], _ =>
        have R2 : Rel B X.K c1 e1 (((τ ++ [(.tmp (.own (.lst ds)), v1)]) ++ [(.tmp (.val (.int m)), v2)]) ++ [(.tmp (.val (.int t)), v3)]) σ H1 := by rw [List.append_assoc, List.append_assoc]; exact R1
        obtain ⟨b, rfl, hcb, vs, hb, ib⟩ := R2.pop.pop.top
        have e2 : v2 = .int m := by have q : Im X.K c1 H1 v2 (.int m) := R2.pop.top; cases q; rfl
        have e3 : v3 = .int t := by have q : Im X.K c1 H1 v3 (.int t) := R2.top; cases q; rfl
        subst e2 e3
        have ev := ib.asInts hcs
        subst ev
        refine ⟨by show 3 ≤ sizeLine; rw [sizeLine_eq]; decide, fun p hp => ?_⟩
        have kp : Kp c1 H1 (c1.set p (some (.tm τ.length))) (upd H1 p (.lst [V.ref b, .int m, .int t])) := .new hp
        have hne : b ≠ p := ne_of_none hb hp
        exact h1 (.ref p) _ _ ((R2.pop.pop.pop.alloc _ hp).push ⟨p, rfl, Col.set_same, b, hne, by rw [Col.set_ne hne]; exact hcb, upd_same, by rw [upd_ne hne]; exact hb⟩)
  · exact h1.elim
end
/-- an own exception class without own __init__, over ValueError -/
structure Exc1 (K : PySem.W.Frag) (mg : Str → Option Value) (x : Str) (C : Addr) : Prop where
  g : mg x = some (.ref C)
  q : PySem.W.excIn K C [.type "ValueError", .type "Exception", .type "BaseException", .type "object"] "ValueError.__new__" = true
  k : PySem.W.keepIn K (.ref C) = true
  s : PySem.W.subIn K (.ref C) (.type "BaseException") = some true
  t : PySem.W.typeIn K (.ref C) = some (.type "type")
def Exd (K : PySem.W.Frag) (mg : Str → Option Value) (x : Str) : Prop := ∃ C, Exc1 K mg x C
theorem vs_raiseX {X : Cx} {B : Bs} {W : WX} {x : Str} {p pos pos' : Pos} (hc : X.calm = true) (tk : Takes X W) (D : Exd X.K X.mg x) (hg : Gl X x := by rfl) (hdb : (x == ("__debug__" : Str)) = false := by decide) : VS X B W (.Raise (some (.Call (.Name x p) [] [] pos)) none pos') (sRaise ⟨x, none⟩) := by
  obtain ⟨C, D⟩ := D
  exact vs_raise0 hc tk PySem.F.excBase_ValueError D.q D.g D.k (raises_own D.s D.t) hg hdb
theorem _root_.L2.Room.u64 {k : Nat} {A : Around} (r : Room k A) : A.units + 64 < cLine := by have := r.un; omega
theorem _root_.L2.Room.u65 {k : Nat} {A : Around} (r : Room k A) : A.units + 65 < cLine := by have := r.un; omega
end VL


/-! VO: repr of data; clauses with names; a lambda that is heard. -/
namespace VL
open PySem PySem.Spec L2
open PyProof.Rows hiding St

/-! ### repr of a list or a tuple -/
def rRepr (K : PySem.W.Frag) : List V → Hp → VK → Prop := fun xs H Q => ∃ (a : Addr) (d : Dt), xs = [.ref a] ∧ Dp K H (.ref a) d ∧ d.showable = true ∧ d.hasDict = false ∧ d.depth ≤ 60 ∧ d.shown.length ≤ sizeLine ∧ Q (.str d.shown) H
theorem call_reprV {X : Cx} (hg : X.A.guards = some []) (hu : X.A.units + 64 < cLine) : CallR X (.builtin "repr") (rRepr X.K) := by
  rintro pins s σ H xs us Q I rs ⟨a, d, rfl, hd, h1, h2, h3, h4, q⟩
  obtain ⟨u, rfl, ru⟩ := rs.one
  cases ru
  obtain ⟨as, rd⟩ := Dp.reads I d (.ref a) (.ref a) hd rfl
  refine repr_of_reads' rd h1 (PyData.noDict_hsm h2) hg (by omega) (fun _ _ e => e) (fun h' u tk hk => ?_) h4
  exact ⟨.str d.shown, H, I.kept (t' := tk) hk, ⟨u, rfl⟩, q⟩
def seqD : Dt → Bool
  | .list _ => true
  | .tuple _ => true
  | _ => false
def fRepr : List Dt → Option Tv
  | [d] => if seqD d = true ∧ PyData.canLay0 d = true ∧ d.showable = true ∧ d.hasDict = false ∧ d.depth ≤ 60 ∧ small d.shown.length = true then some (.val (.str d.shown)) else none
  | _ => none
theorem fRepr_ok {K : PySem.W.Frag} : OpN K (rRepr K) fRepr := by
  intro c H xs ds t Q h1 hf q
  unfold fRepr at hf
  split at hf
  · rename_i d
    split at hf
    · rename_i hz
      cases hf
      cases h1 with
      | cons w1 w2 =>
        cases w2
        obtain ⟨z0, z1, z2, z3, z4, z5⟩ := hz
        have hd := w1.dp z1
        have hr : ∃ a, ∃ v, v = V.ref a ∧ Vw K c H v d ∧ Dp K H v d := by
          cases d with
          | list _ => obtain ⟨a, _, rfl, _⟩ := w1.list; exact ⟨a, _, rfl, w1, hd⟩
          | tuple _ => obtain ⟨a, _, rfl, _⟩ := w1.tuple; exact ⟨a, _, rfl, w1, hd⟩
          | _ => cases z0
        cases d with
        | list _ => obtain ⟨a, _, rfl, _⟩ := w1.list; exact ⟨a, _, rfl, hd, z2, z3, z4, small_of z5, q _ H (.sc (.str _))⟩
        | tuple _ => obtain ⟨a, _, rfl, _⟩ := w1.tuple; exact ⟨a, _, rfl, hd, z2, z3, z4, small_of z5, q _ H (.sc (.str _))⟩
        | _ => cases z0
    · cases hf
  · cases hf

/-! ### try .. except A as n: .. except B as n: .. -/
/-- an exception goes through the clauses: class, slot of the name, reading of the suite -/
abbrev AsCl := Value × Nat × (Addr → Value → Option Addr → TS)
def endsGone (D : Ends) (i : Nat) : Ends := ⟨fun σ H => D.nx (σ.set i none) H, D.rt, fun σ H => D.bk (σ.set i none) H, fun σ H => D.ct (σ.set i none) H⟩
def wCl (K : PySem.W.Frag) (Wo : WX) (D : Ends) : List AsCl → WX
  | [], cls, d, σ, H => Wo cls d σ H
  | (c, i, ts) :: r, cls, d, σ, H => (PySem.W.exmOne K cls c = some true ∧ ∀ a, H a = none → ts a cls d (endsGone D i) (σ.set i (some (.ref a))) H) ∨ (PySem.W.exmOne K cls c = some false ∧ wCl K Wo D r cls d σ H)
inductive ClOk (X : Cx) : List ExceptHandler → List AsCl → Prop
  | nil : ClOk X [] []
  | cons {x n : Str} {c : Value} {i : Nat} {ts : Addr → Value → Option Addr → TS} {b : Stmt} {bs : List Stmt} {p p' : Pos} {hs : List ExceptHandler} {l : List AsCl} (hc : Names X x c) (hi : X.N[i]? = some n) (hn : X.env.kindOf n = some .local)
      (su : ∀ (a : Addr) (oe : Obj) (cls : Value) (d : Option Addr) (pn : List (Addr × Obj)), Zc cls d oe → (∃ vs, oe.data = .fields vs) → PSs (X.suite a ((a, oe) :: pn)) (b :: bs) (ts a cls d)) (r : ClOk X hs l) :
      ClOk X (.ExceptHandler (some (.Name x p)) (some n) (b :: bs) p' :: hs) ((c, i, ts) :: l)
theorem ps_clauses {X : Cx} {body : List Stmt} {h0 : ExceptHandler} {hs : List ExceptHandler} {l : List AsCl} {pos : Pos} {tb : WX → TS} {Wo : WX} (es : X.stack = X.env :: X.outer) (ef : X.env.frame = some X.env.locals) (nd : X.N.Nodup) (tk : Takes X Wo)
    (hb : ∀ (W : WX) (pn : List (Addr × Obj)) (xe : Value → Shared → Prop), Takes (X.tr pn xe) W → PassesOwn (model X.prog X.w) X.A X.env xe → PSs (X.tr pn xe) body (tb W)) (hh : ClOk X (h0 :: hs) l) :
    PS X (.Try body (h0 :: hs) [] [] pos) (fun D σ H => tb (wCl X.K Wo D l) D σ H) := by
  constructor
  intro pins s σ H D I h
  have ok := I.ok
  have fr : X.A.frames = some (X.env :: X.outer) := by rw [ok.frames, es]
  apply wpAny_Try_except
  refine wpAny_mono ((hb (wCl X.K Wo D l) (X.pn ++ pins) _ (fun u s' xx => ?_) PassesOwn.looking).run [] s σ H D (I.toTry _) h) (fun f s1 q => ?_) fun _ _ z => z
  · obtain ⟨a, B, sI, pins', σ', H', cls, d, rfl, J', nb, up, sky, na, os, ag, w⟩ := xx
    have J : Inv X pins σ' H' sI := J'.ofTry ok
    refine Sky.land Zc.steady fr ef (show Sky B (X.env :: X.outer) a (Zc cls d) X.env.locals s'.heap by rw [← es]; exact sky) fun g3 fl up3 => ?_
    obtain ⟨oe, vs, he, hz, hd⟩ := fl.there
    have nfr : a ∉ frs (X.env :: X.outer) := fun hm => by
      obtain ⟨_, o', e', hnf⟩ := fl.2.2.1.mem hm
      rw [he] at e'
      cases e'
      exact hnf _ hd
    have nL : a ≠ X.env.locals := fun z => nfr (List.mem_filterMap.mpr ⟨X.env, List.mem_cons_self, by rw [ef, z]⟩)
    have nF : a ∉ X.fs := fun hm => by
      obtain ⟨e, h1, h2⟩ := List.mem_filterMap.mp hm
      exact nfr (List.mem_filterMap.mpr ⟨e, List.mem_cons_of_mem _ h1, h2⟩)
    have J3 : Inv X pins σ' H' { s' with heap := g3 } := J.landed nb fl.1 (up.trans up3) os ag
    have S3 := J3.suite he hd na nL nF
    clear hb h
    generalize h0 :: hs = hs' at hh
    induction hh with
    | nil =>
      apply wpAny_handleBy_nil
      obtain ⟨_, _, _, oe2, vs2, T, oT, ts2, he2, hz2, hd2, hv2, _⟩ := id fl
      unfold PySem.passOn
      refine wpAny_bind (wpAny_field he2 hd2 hv2 ?_)
      rw [if_neg (show ¬ ((Value.ref T == Value.none) = true) by simp)]
      have go : wpAny (model X.prog X.w) X.A (setFlight (.ref a) X.env.frame) (fun _ s4 => wpAny (model X.prog X.w) X.A (throw (.ref a) : Sem Flow) (SP X pins D) X.xe s4) X.xe { s' with heap := g3 } := by
        rw [ef]
        exact HandSPX.setFlight_upZ fl fun g4 hh4 up4 => wpAny_throw (tk _ _ ⟨a, B, sI, pins, σ', H', cls, d, rfl, J, nb, (up.trans up3).trans up4, .inr (.inr (by rw [es]; exact hh4)), na, os, ag, w⟩)
      first
        | exact wpAny_bind (wpAny_pure (wpAny_bind go))
        | exact wpAny_bind go
    | @cons x n c i ts b bs p p' hs2 l2 hc hi hn su r ih =>
      have lc : Loc X.env.scope n := .inl hn
      refine wpAny_handleBy_cons (codeAny_handlers_test ?_) fun z => nomatch z
      have tyE : PySem.W.Looks (model X.prog X.w) g3 (typeOf (.ref a)) cls := fun _ _ _ _ k q => wpAny_typeOf_ref (k _ _ he) (by rw [hz.1]; exact q)
      have cl : ∀ {Q : Value → Shared → Prop} {E : Value → Shared → Prop}, Q c { s' with heap := g3 } → wpAny (model X.prog X.w) (X.A.mark (some (.ref a))) (eval (.Name x p) X.env) Q E { s' with heap := g3 } := fun {Q E} q => by
        obtain ⟨k1, k2, k3⟩ := hc
        rcases k3 with k3 | ⟨k3, k4, k5⟩
        · exact ld_glob (X := X.suite a ((a, oe) :: (X.pn ++ pins))) S3 k1 k3 q k2
        · exact ld_blt (X := X.suite a ((a, oe) :: (X.pn ++ pins))) S3 k1 k3 k4 q k5 k2
      rcases w with ⟨eb, w⟩ | ⟨eb, w⟩
      · refine cl ((PySem.W.exm_one (M := model X.prog X.w) J3.kIn tyE eb).here (codeAny_handlers_suite_as ?_))
        refine HandSPX.lands_againZ fl fun g4 fl4 up4 => ?_
        obtain ⟨oe4, vs4, he4, hz4, hd4⟩ := fl4.there
        have J4 : Inv X pins σ' H' { s' with heap := g4 } := J.landed nb fl4.1 ((up.trans up3).trans up4) os ag
        refine store_ok (X := X.suite a ((a, oe4) :: (X.pn ++ pins))) (v := .ref a) (J4.suite he4 hd4 na nL nF) nd hi lc rfl (fun s5 S5 => ?_) (.inr hn)
        refine wpAny_mono ((su a oe4 cls d (X.pn ++ pins) hz4 ⟨_, hd4⟩).run [] s5 _ H' _ S5 (w a na)) (fun f s6 q6 => ?_) fun _ _ z => False.elim z
        have fin : ∀ {σ6 : St} {H6 : Hp} {Q : Shared → Prop}, Inv (X.suite a ((a, oe4) :: (X.pn ++ pins))) [] σ6 H6 s6 → (∀ s7, Inv X pins (σ6.set i none) H6 s7 → Q s7) →
            wpAny (model X.prog X.w) X.A (do bindName X.env n .none; unbindBehindTheSuite X.env n p') (fun _ s7 => Q s7) X.xe s6 := fun S6 k => gone_ok (S6.unsuite ok) nd hi hn k
        cases f with
        | next => obtain ⟨_, _, S6, q7⟩ := q6; exact fin S6 fun s7 J7 => ⟨_, _, J7, q7⟩
        | brk => obtain ⟨_, _, S6, q7⟩ := q6; exact fin S6 fun s7 J7 => ⟨_, _, J7, q7⟩
        | cont => obtain ⟨_, _, S6, q7⟩ := q6; exact fin S6 fun s7 J7 => ⟨_, _, J7, q7⟩
        | ret u => obtain ⟨_, _, _, S6, r6, q7⟩ := q6; exact fin S6 fun s7 J7 => ⟨_, _, _, J7, r6, q7⟩
      · refine cl ((PySem.W.exm_one (M := model X.prog X.w) J3.kIn tyE eb).here ?_)
        show wpAny _ X.A (handleBy (.ref a) X.env hs2) _ _ _
        exact ih w
  · cases f with
    | next => obtain ⟨_, _, J', q⟩ := q; exact wpAny_execs_nil ⟨_, _, J'.ofTry ok, q⟩
    | brk => obtain ⟨_, _, J', q⟩ := q; exact ⟨_, _, J'.ofTry ok, q⟩
    | cont => obtain ⟨_, _, J', q⟩ := q; exact ⟨_, _, J'.ofTry ok, q⟩
    | ret u => obtain ⟨_, _, _, J', r, q⟩ := q; exact ⟨_, _, _, J'.ofTry ok, r, q⟩

/-! ### what a clause asks of the exception that it holds -/
def rIsET (K : PySem.W.Frag) (D a : Addr) : List V → Hp → VK → Prop := fun xs H Q => ∃ (tp : Addr) (cs : List V) (us : List Value) (b : Bool), xs = [.ref a, .ref tp] ∧ H tp = some (.tup cs) ∧ Paired ClsV cs us ∧ PySem.W.kitAny K (.ref D) us = some b ∧ Q (.bl b) H
theorem inst_at {X : Cx} {a D : Addr} {oe : Obj} {pn pins : List (Addr × Obj)} {σ : St} {H : Hp} {s : Shared} (hz : Zc (.ref D) none oe) (hf : ∃ vs, oe.data = .fields vs) (I : Inv (X.suite a ((a, oe) :: pn)) pins σ H s) : PySem.W.InstAt s.heap a oe D none := by
  obtain ⟨hget, _⟩ := I.pin (a, oe) (List.mem_append.mpr (.inl List.mem_cons_self))
  obtain ⟨vs, hv⟩ := hf
  obtain ⟨h1, h2⟩ := hz
  obtain ⟨oc, od, oda, osl⟩ := oe
  simp only at h1 h2 hv
  subst h1 h2 hv
  exact ⟨hget, rfl, rfl, trivial⟩
theorem call_isET {X : Cx} {a D : Addr} {oe : Obj} {pn : List (Addr × Obj)} (C : ExcC X.K D) (hz : Zc (.ref D) none oe) (hf : ∃ vs, oe.data = .fields vs) : CallR (X.suite a ((a, oe) :: pn)) (.builtin "isinstance") (rIsET X.K D a) := by
  rintro pins s σ H xs us Q I r ⟨tp, cs, ws, b, rfl, hT, k, e, q⟩
  obtain ⟨u1, u2, rfl, r1, r2⟩ := vals2 r
  obtain rfl : u1 = Value.ref a := r1
  obtain rfl : u2 = Value.ref tp := r2
  obtain ⟨_, its, rv, o, h1, h2, n, h3⟩ := (show ObjOk X.prog X.w H s.heap tp (.tup cs) from I.hok tp _ hT)
  obtain rfl := ClsV.all k rv
  obtain ⟨oc, od, dt, sl⟩ := o
  simp only at h2 h3
  subst h2 h3
  exact PySem.W.kia_tup (PySem.W.handS_kitx_exc C.hg C.hk C.hs C.hd C.ha C.hn C.ht C.hm) I.kIn (inst_at hz hf I) h1 e (fun z => nomatch z) fun tk => ⟨.bl b, H, I.tok tk, rfl, q⟩
/-- what is known of the exceptions that are heard -/
structure Hd (K : PySem.W.Frag) (mg : Str → Option Value) (U Wy TM BR BH : Addr) : Prop where
  gU : mg "Unfit" = some (.ref U)
  gW : mg "WayError" = some (.ref Wy)
  gT : mg "TooMany" = some (.ref TM)
  gR : mg "BadRun" = some (.ref BR)
  gH : mg "BadHouse" = some (.ref BH)
  gI : mg "isinstance" = none
  xU : PySem.W.exmOne K (.ref U) (.ref U) = some true
  kW : PySem.W.kitOne K (.ref U) (.ref Wy) = some true
  kA : PySem.W.kitAny K (.ref U) [.ref TM, .ref BR, .ref BH] = some false
  ec : ExcC K U
/-- what the def makes of a lambda's reading -/
def TTh (U TM BR BH : Addr) : (XK → Hp → VK → Prop) → Hp → VK → Prop := fun tl H Q =>
  tl (fun cls d H' => (cls = .ref U ∧ d = none) ∧ ∀ t, H' t = none → ∀ p, upd H' t (.tup [.ref TM, .ref BR, .ref BH]) p = none → Q (.ref p) (upd (upd H' t (.tup [.ref TM, .ref BR, .ref BH])) p (.lst [.str "unfit", .bl true, .bl false])))
    H (fun v H' => [V.str "told", v].length ≤ sizeLine ∧ ∀ p, H' p = none → Q (.ref p) (upd H' p (.lst [.str "told", v])))
theorem le_size {n : Nat} (h : n ≤ 1000) : n ≤ sizeLine := Nat.le_of_lt (small1000 h)
theorem heard_gives {X : Cx} {U Wy TM BR BH g : Addr} {sg : Scope} {cdg : Value} {q : Str} {j1 j2 k1 : Nat} {b : Stmt} {bs : List Stmt} {p1 p2 p3 p4 p5 p6 p7 p8 p9 p10 p11 p12 p13 p14 p15 p16 p17 p18 p19 p20 p21 p22 p23 pos : Pos} (D : Hd X.K X.mg U Wy TM BR BH) (S : FnScope ["call", "error"] ["call"] sg)
    (l1 : sg.names.lookup ("error" : Str) = some .local) (n1 : sg.names.lookup ("Unfit" : Str) = some .globalImplicit) (n2 : sg.names.lookup ("WayError" : Str) = some .globalImplicit) (n3 : sg.names.lookup ("TooMany" : Str) = some .globalImplicit) (n4 : sg.names.lookup ("BadRun" : Str) = some .globalImplicit) (n5 : sg.names.lookup ("BadHouse" : Str) = some .globalImplicit) (n6 : sg.names.lookup ("isinstance" : Str) = some .globalImplicit) :
    LamX.GivesTo X ["call", "error"] "_law_heard" sg g cdg [.Try [.Return (some (.List [.Constant (.str "told") j1 p1, .Call (.Name "call" p2) [] [] p3] p4)) p5]
      [.ExceptHandler (some (.Name "Unfit" p6)) (some "error") [.Return (some (.List [.Constant (.str "unfit") j2 p7, .Call (.Name "isinstance" p8) [.Name "error" p9, .Name "WayError" p10] [] p11,
        .Call (.Name "isinstance" p12) [.Name "error" p13, .Tuple [.Name "TooMany" p14, .Name "BadRun" p15, .Name "BadHouse" p16] k1 p17] [] p18] p19)) p20] p21,
       .ExceptHandler (some (.Name "TooMany" p22)) (some "error") (b :: bs) p23] [] [] pos] "call" q (TTh U TM BR BH) := by
  intro f c' s H Q tl act hc h
  let Y : Cx := (cxOf C8.CX0 X.prog X.w X.K X.mg X.base ["call", "error"] "_law_heard" sg g cdg X.A X.stack s H C8.E0).nox
  have iso : ∀ (a : Addr) (oe : Obj) (pn : List (Addr × Obj)), Zc (.ref U) none oe → (∃ vs, oe.data = .fields vs) →
      PSs (Y.suite a ((a, oe) :: pn)) [.Return (some (.List [.Constant (.str "unfit") j2 p7, .Call (.Name "isinstance" p8) [.Name "error" p9, .Name "WayError" p10] [] p11, .Call (.Name "isinstance" p12) [.Name "error" p13, .Tuple [.Name "TooMany" p14, .Name "BadRun" p15, .Name "BadHouse" p16] k1 p17] [] p18] p19)) p20] _ := fun a oe pn hz hf =>
    pss_one (ps_ret (pe_lst (pa_cons pe_str (pa_cons (pe_callB (X := Y.suite a ((a, oe) :: pn)) (call_isE (X := Y) D.ec hz hf) n6 D.gI boot_isinstance (pa_cons (pe_var (i := 1) rfl (.inl l1)) (pa_cons (pe_glob n2 D.gW (v := .ref Wy) rfl) pa_nil)))
      (pa_cons (pe_callB (X := Y.suite a ((a, oe) :: pn)) (call_isET (X := Y) D.ec hz hf) n6 D.gI boot_isinstance (pa_cons (pe_var (i := 1) rfl (.inl l1)) (pa_cons (pe_tup (pa_cons (pe_glob n3 D.gT (v := .ref TM) rfl) (pa_cons (pe_glob n4 D.gR (v := .ref BR) rfl) (pa_cons (pe_glob n5 D.gH (v := .ref BH) rfl) pa_nil)))) pa_nil))) pa_nil)))))
  refine ⟨_, pss_one (ps_clauses (X := Y) (Wo := fun _ _ _ _ => False)
    (l := [(.ref U, 1, fun a cls d E σ H => (cls = .ref U ∧ d = none) ∧ (∃ σ' : St, σ = σ'.set 1 (some (.ref a))) ∧ ∀ t, H t = none → ∀ p, upd H t (.tup [.ref TM, .ref BR, .ref BH]) p = none → E.rt (.ref p) (upd (upd H t (.tup [.ref TM, .ref BR, .ref BH])) p (.lst [.str "unfit", .bl true, .bl false]))), (.ref TM, 1, fun _ _ _ _ _ _ => False)])
    (tb := fun W E σ H => ∃ Ech : XK, (∀ cls d σ' H', Ech cls d H' → W cls d σ' H') ∧ σ[0]? = some (some (.ref f)) ∧ H c' = some (LamX.CodeO c' q) ∧ tl Ech H fun v H' => [V.str "told", v].length ≤ sizeLine ∧ ∀ p, H' p = none → E.rt (.ref p) (upd H' p (.lst [.str "told", v])))
    rfl rfl S.nd L2.takes0 (fun W pn xe tk _ => ?_) (.cons (i := 1) ⟨n1, rfl, .inl D.gU⟩ rfl l1 (fun a oe cls d pn hz hf => ?_) (.cons (i := 1) ⟨n3, rfl, .inl D.gT⟩ rfl l1 (fun a oe cls d pn hz hf => ?_) .nil))), ?_⟩
  · constructor
    rintro pins s' σ H' E I ⟨Ech, hW, h1, h2, h3⟩
    exact (pss_one (ps_ret (pos := p5) (pe_lst (pos := p4) (pa_cons (pe_str (j := j1) (pos := p1)) (pa_cons (act W pn xe Ech p2 p3 tk hW) pa_nil))))).run pins s' σ H' E I ⟨h1, h2, h3⟩
  · constructor
    rintro pins s' σ H' E I ⟨⟨rfl, rfl⟩, ⟨σ', rfl⟩, h2⟩
    have hl : (σ'.set 1 (some (V.ref a))).length = 2 := I.len
    have h1 : (σ'.set 1 (some (V.ref a)))[1]? = some (some (.ref a)) := List.getElem?_set_self (by rw [List.length_set] at hl; omega)
    refine (iso a oe pn hz hf).run pins s' _ H' E I ?_
    exact ⟨.ref a, h1, .ref Wy, .ref Wy, true, rfl, fun _ r => r, D.kW, .ref a, h1, le_size (show 3 ≤ 1000 by decide), fun t ht => ⟨t, _, [.ref TM, .ref BR, .ref BH], false, rfl, upd_same, .cons (.own _) (.cons (.own _) (.cons (.own _) .nil)), D.kA, le_size (show 3 ≤ 1000 by decide), fun p hp => h2 t ht p hp⟩⟩
  · exact ⟨fun _ _ _ _ _ _ z => z.elim⟩
  · refine ⟨_, fun cls d σ' H' z => .inl ⟨?_, fun a ha => ⟨z.1, ⟨σ', rfl⟩, z.2⟩⟩, rfl, hc, h⟩
    rw [z.1.1]
    exact D.xU
end VL


/-! VP: a lambda is made and heard. -/
namespace VL
open PySem PySem.Spec L2
open PyProof.Rows hiding St

def extO : HO → Bool
  | .ext _ => true
  | .tbl _ => true
  | _ => false
/-- all stays but tables; colours stay but of code objects -/
structure Kl (c : Col) (H : Hp) (c' : Col) (H' : Hp) : Prop where
  obj : ∀ a u, H a = some u → (∀ ps, u ≠ .tbl ps) → H' a = some u
  col : ∀ a u, H a = some u → extO u = false → c' a = c a
section
variable {K : PySem.W.Frag} {c c' : Col} {H H' : Hp}
theorem Kl.sqt (k : Kl c H c' H') {a : Addr} {xs : List V} (h : SqT K H a xs) : SqT K H' a xs := by
  rcases h with (h | ⟨o, h⟩) | h
  · exact .inl (.inl (k.obj a _ h fun _ z => nomatch z))
  · exact .inl (.inr ⟨o, k.obj a _ h fun _ z => nomatch z⟩)
  · exact .inr h
mutual
theorem Im.kl (k : Kl c H c' H') : ∀ {v : V} (d : Dt), Im K c H v d → Im K c' H' v d
  | _, .none, .non => .non
  | _, .bool _, .bl b => .bl b
  | _, .int _, .int i => .int i
  | _, .str _, .str x => .str x
  | _, .tuple ds, .tup h hs => .tup (k.sqt h) (Ims.kl k ds hs)
  | _, .list ds, .lst hc h hs => .lst ((k.col _ _ h rfl).trans hc) (k.obj _ _ h fun _ z => nomatch z) (Ims.kl k ds hs)
  | _, .dict es, .dic hc h hs => .dic ((k.col _ _ h rfl).trans hc) (k.obj _ _ h fun _ z => nomatch z) (Kvs.kl k es hs)
theorem Ims.kl (k : Kl c H c' H') : ∀ {vs : List V} (ds : List Dt), Ims K c H vs ds → Ims K c' H' vs ds
  | _, [], .nil => .nil
  | _, d :: ds, .cons h hs => .cons (Im.kl k d h) (Ims.kl k ds hs)
theorem Kvs.kl (k : Kl c H c' H') : ∀ {kvs : List (Key × V)} (es : List (Dt × Dt)), Kvs K c H kvs es → Kvs K c' H' kvs es
  | _, [], .nil => .nil
  | _, (_, d) :: es, .cons h hs => .cons (Im.kl k d h) (Kvs.kl k es hs)
end
theorem Gr.kl (k : Kl c H c' H') {i : Cl} : ∀ {as : List Addr} {rs : List (List Dt)}, Gr K c H i as rs → Gr K c' H' i as rs
  | _, _, .nil => .nil
  | _, _, .cons h1 h2 h3 h4 => .cons ((k.col _ _ h2 rfl).trans h1) (k.obj _ _ h2 fun _ z => nomatch z) (Ims.kl k _ h3) (h4.kl k)
theorem ObAt.kl (k : Kl c H c' H') {i : Cl} {a : Addr} {o : Ob} (h : ObAt K c H i a o) : ObAt K c' H' i a o := by
  cases o with
  | lst ds =>
    obtain ⟨hc, vs, hv, hs⟩ := h
    exact ⟨(k.col _ _ hv rfl).trans hc, vs, k.obj _ _ hv (fun _ z => nomatch z), Ims.kl k _ hs⟩
  | dic es =>
    obtain ⟨hc, vs, hv, hs⟩ := h
    exact ⟨(k.col _ _ hv rfl).trans hc, vs, k.obj _ _ hv (fun _ z => nomatch z), Kvs.kl k _ hs⟩
  | pot cs p t =>
    obtain ⟨hc, b, hb, hcb, h1, h2⟩ := h
    exact ⟨(k.col _ _ h1 rfl).trans hc, b, hb, (k.col _ _ h2 rfl).trans hcb, k.obj _ _ h1 (fun _ z => nomatch z), k.obj _ _ h2 fun _ z => nomatch z⟩
  | scr ns => exact h.imp (fun ⟨q, hq⟩ => ⟨q, k.obj _ _ hq fun _ z => nomatch z⟩) id
  | grid rows =>
    obtain ⟨hc, as, h1, h2, h3, h4⟩ := h
    exact ⟨(k.col _ _ h1 rfl).trans hc, as, k.obj _ _ h1 (fun _ z => nomatch z), h2, h3, h4.kl k⟩
theorem TvOk.kl (k : Kl c H c' H') {i : Cl} {t : Tv} {v : V} (h : TvOk K c H i t v) : TvOk K c' H' i t v := by
  cases t with
  | val d => exact Im.kl k d h
  | own o => obtain ⟨a, e, h⟩ := h; exact ⟨a, e, h.kl k⟩
  | io o => obtain ⟨a, e, h⟩ := h; exact ⟨a, e, h.kl k⟩
/-- a lambda was made -/
theorem Rel.lam {B : Bs} {e : En} {τ : List (R × V)} {σ : St} {P : Addr} {q : Str} (R : Rel B K c e τ σ H) (x : LamX.ExtN H H') (t : LamX.TabS H' P q) (hT : B.T P q) (hu : ∀ P' q', B.T P' q' → P' = P ∧ q' = q) (hB : ∀ b ps, B.H b = some (.tbl ps) → B.io b) : ∃ c', Rel B K c' e τ σ H' := by
  let c1 : Col := fun b => if c b = none ∨ c b = some .bs then c b else match H' b with
    | some (.ext _) => none
    | _ => c b
  have ce : ∀ b, c b = none ∨ c b = some .bs → c1 b = c b := fun b hb => if_pos hb
  have k : Kl c H c1 H' := ⟨fun a u h hn => x a u h hn, fun a u h hx => by
    show (if c a = none ∨ c a = some .bs then c a else match H' a with | some (.ext _) => none | _ => c a) = c a
    split
    · rfl
    · split
      · rename_i φ hφ
        cases u with
        | tbl ps => cases hx
        | ext φ' => cases hx
        | _ => rw [x a _ h (fun _ z => nomatch z)] at hφ; cases hφ
      · rfl⟩
  refine ⟨c1, R.len, fun i t ht => ?_, fun k' r v hk => ?_, fun b u hb n => ?_, R.bs, R.io, fun P' q' hT' => ?_⟩
  · obtain ⟨v, h1, h2⟩ := R.sl i t ht
    exact ⟨v, h1, h2.kl k⟩
  · have h := R.tm k' r v hk
    cases r with
    | tmp t => exact TvOk.kl k h
    | bor j => exact h
  · obtain ⟨h1, h2⟩ := R.fr b u hb n
    exact ⟨x b u h1 (fun ps z => n (hB b ps (by rw [hb, z]))), by rw [ce b (by rw [h2]; exact R.bs b u hb n)]; exact h2⟩
  · obtain ⟨rfl, rfl⟩ := hu P' q' hT'
    obtain ⟨hc, _⟩ := R.tb _ _ hT'
    obtain ⟨ps, h1, h2, h3⟩ := t
    refine ⟨by rw [ce _ hc]; exact hc, ps, h1, h2, fun pos cv hcv => ?_⟩
    obtain ⟨b, e1, e2⟩ := h3 pos cv hcv
    refine ⟨b, e1, ?_, e2⟩
    show (if c b = none ∨ c b = some .bs then c b else match H' b with | some (.ext _) => none | _ => c b) = none ∨ (if c b = none ∨ c b = some .bs then c b else match H' b with | some (.ext _) => none | _ => c b) = some .bs
    split
    · assumption
    · rw [e2]
      exact .inl rfl
end
/-! ### x(lambda: body) -/
def mHeard (m : M R) : M R := fun e => match m e with
  | .ok r e1 => match fz e1 r with
    | some (d, e2) => .ok (.tmp (.own (.lst [.str ("told" : Str), d]))) e2
    | none => .bad
  | .er ⟨x, none⟩ e1 => if x = ("Unfit" : Str) then .ok (.tmp (.own (.lst [.str ("unfit" : Str), .bool true, .bool false]))) e1 else .bad
  | _ => .bad
theorem ve_heard {X : Cx} {B : Bs} {W : WX} {U Wy TM BR BH g c P : Addr} {sH : Stmt} {fdH : FuncData} {k : Nat} {params : Arguments} {body : Expr} {scope : Scope} {m : M R} {p lpos pos : Pos} (D : Hd X.K X.mg U Wy TM BR BH) (FH : Fun X.K ("_law_heard" : Str) ("_law_heard" : Str) sH g fdH) (bH : Binds X.K fdH [("call" : Str)] [])
    (gH : X.mg ("_law_heard" : Str) = some (.ref g)) (SH : FnScope [("call" : Str), ("error" : Str)] [("call" : Str)] (defScope sH)) (vH : Vis (defScope sH) ("call" : Str)) (hG : ∀ (cdg : Value) (q : Str), LamX.GivesTo X [("call" : Str), ("error" : Str)] ("_law_heard" : Str) (defScope sH) g cdg (defBody sH) ("call" : Str) q (TTh U TM BR BH))
    (TB : LamX.TabB X.base X.mg c P) (hcode : X.env.code = .ref c) (hT : B.T P (X.env.qual ++ "<lambda>")) (hu : ∀ P' q', B.T P' q' → P' = P ∧ q' = X.env.qual ++ "<lambda>") (hB : ∀ b ps, B.H b = some (.tbl ps) → B.io b) (hr : Room (k + 2) X.A)
    (L : LamX.LamS X.env.scope scope) (hdef : defaultsOf params X.env = ([], [])) (hbind : ∀ (q : Str) (cl : List (Str × Addr)) (pm cv ctv : Value), bindArgs (PySem.W.kla_fn "<lambda>" q params body scope cl pm cv ctv) ⟨[], []⟩ = pure [])
    (hbody : ∀ (A : Around) (outer : List Env) (s : Shared) (H : Hp) (E : XK) (f c' : Addr), Room k (A.deeper (LamX.lamEnv X scope s.heap.objs.size f c')) → VE (LamX.lamCx X A outer s H E scope f c') B (fun cls d _ H' => E cls d H') body m) (hg : Gl X ("_law_heard" : Str) := by rfl) :
    VE X B W (.Call (.Name ("_law_heard" : Str) p) [.Lambda params body scope lpos] [] pos) (mHeard m) := by
  obtain ⟨oc, od, kV, doc, pm, an, cdv, ct, osl, rfl, lk, hcg⟩ := FH.ex
  refine PE.imp (LamX.pe_lamcall (T := [(P, X.env.qual ++ "<lambda>")]) hg gH FH.kp lk hcg bH SH rfl vH (hG cdv _) TB hcode List.mem_cons_self (fun p hp _ => by rw [List.mem_singleton.mp hp]) hr L hdef hbind
    (t := fun E => tV B X.K X.mg (fun cls d _ H' => E cls d H') m) (fun A outer s H E f c' hr' => hbody A outer s H E f c' hr')) fun σ H Q h => ?_
  obtain ⟨c0, e, τ, R, h⟩ := h
  have tab : ∀ {c0 : Col} {H : Hp} {P : Addr} {q : Str}, TabC c0 H P q → LamX.TabS H P q := fun ⟨_, ps, h1, h2, h3⟩ => ⟨ps, h1, h2, fun pos cv hc => let ⟨b, e1, _, e3⟩ := h3 pos cv hc; ⟨b, e1, e3⟩⟩
  refine ⟨fun p hp => by rw [List.mem_singleton.mp hp]; exact tab (R.tb _ _ hT), fun H1 x t => ?_⟩
  obtain ⟨c1, R1⟩ := R.lam x (t _ List.mem_cons_self) hT hu hB
  refine ⟨c1, e, τ, R1, ?_⟩
  unfold mHeard at h
  cases hm : m e with
  | bad => rw [hm] at h; exact h.elim
  | er xx e1 =>
    rw [hm] at h
    obtain ⟨x0, fld⟩ := xx
    cases fld with
    | some _ => exact h.elim
    | none =>
      simp only at h
      split at h
      · rename_i hx
        subst hx
        rintro cls d c2 H2 R2 ⟨q1, q2⟩
        rw [D.gU] at q1
        cases q1
        refine ⟨⟨rfl, q2⟩, fun t ht p hp => ?_⟩
        obtain ⟨c3, R3⟩ := (R2.alloc (o := .tup [.ref TM, .ref BR, .ref BH]) none ht).new (t := .own (.lst [.str ("unfit" : Str), .bool true, .bool false])) (v := .ref p) ⟨p, [.str "unfit", .bl true, .bl false], rfl, hp, rfl, .cons (.str _) (.cons (.bl _) (.cons (.bl _) .nil))⟩
        exact h _ c3 _ R3
      · exact h.elim
  | ok r e1 =>
    rw [hm] at h
    simp only at h
    intro v c2 H2 R2
    cases hf : fz e1 r with
    | none => rw [hf] at h; exact h.elim
    | some pr =>
      obtain ⟨d, e2⟩ := pr
      rw [hf] at h
      obtain ⟨c3, R3⟩ := R2.fzTop hf
      refine ⟨le_size (show 2 ≤ 1000 by decide), fun p hp => ?_⟩
      have im : Im X.K c3 H2 v d := R3.top
      obtain ⟨c4, R4⟩ := R3.pop.new (t := .own (.lst [.str ("told" : Str), d])) (v := .ref p) ⟨p, [.str "told", v], rfl, hp, rfl, .cons (.str _) (.cons im .nil)⟩
      exact h _ c4 _ R4
end VL


/-! VQ: the law's own call. -/
namespace VL
open PySem PySem.Spec L2
open PyProof.Rows hiding St

section
variable {P : Program} {w : World} {K : PySem.W.Frag} {mg mb : Str → Option Value} {s : Shared} {fa a c T : Addr} {vs : List Value} {ns : List Int}
/-- what is tracked as the law begins: the script, the empty table -/
structure At0 (K : PySem.W.Frag) (H : Hp) (a T : Addr) (ns : List Int) : Prop where
  scr : (∃ o, H a = some (.frz o (.lst (ns.map V.int)))) ∨ SqL K (fun _ => none) a (ns.map V.int)
  tab : H T = some (.tbl #[])
  only : ∀ b u, H b = some u → (b = T ∧ u = .tbl #[]) ∨ ∃ o xs, u = .frz o (.lst xs)
theorem law_go (KX : K.In s.heap) (g1 : s.heap.Ns mainGlobals mg) (g2 : s.heap.Ns builtinsNs mb) (g3 : ∀ x : Str, x ≠ "__name__" → mb x = bootBuiltins x) (g4 : s.heap.NoLimit) (g5 : s.gens = #[])
    (g6 : ∃ (bm : Addr) (ob : Obj), mg "__builtins__" = some (.ref bm) ∧ bm ≠ builtinsNs ∧ s.heap.get? bm = some ob ∧ ob.cls = .type "module" ∧ ob.dict = some builtinsNs ∧ ob.data = .plain)
    (tb : s.heap.get? T = some { cls := .none, data := .fields #[] }) (tn : K.lookup T = none) (tc : PySem.W.CodeHd s.heap c T) (sc : s.heap.get? a = some { cls := .type "list", data := .seq vs.toArray }) (si : IntsAre vs ns) (sl : ns.length ≤ sizeLine)
    (call : ∀ H, At0 K H a T ns → Env0 P w K mg (hidT s.heap H) callerA [] s H → LamX.TabB (hidT s.heap H) mg c T → codeAny (model P w) callerA (.call (.ref fa) ⟨[.ref a], []⟩) (CR (L2.CX P w) [] P w H s (fun v _ => v = .bl true) fun _ _ _ => False) s) :
    codeAny (model P w) callerA (.call (.ref fa) ⟨[.ref a], []⟩) (fun r s' => r = .ok (.ret (.bool true)) ∧ OldK s.heap s'.heap ∧ s'.os = s.os ∧ AllBare s'.gens) s := by
  have aT : a ≠ T := fun z => by
    rw [z, tb] at sc
    cases congrArg Obj.data (Option.some.inj sc)
  let oS : Obj := { cls := .type "list", data := .seq vs.toArray }
  obtain ⟨H, hH⟩ : ∃ H : Hp, H = fun b => if b = T then some (.tbl #[]) else if b = a ∧ K.lookup a = none then some (.frz oS (.lst (ns.map V.int))) else none := ⟨_, rfl⟩
  have hT : H T = some (.tbl #[]) := by rw [hH]; exact if_pos rfl
  have hA : K.lookup a = none → H a = some (.frz oS (.lst (ns.map V.int))) := fun e => by rw [hH]; exact (if_neg aT).trans (if_pos ⟨rfl, e⟩)
  have hA' : K.lookup a ≠ none → H a = none := fun e => by rw [hH]; exact (if_neg aT).trans (if_neg fun z => e z.2)
  have hO : ∀ b, b ≠ T → b ≠ a → H b = none := fun b h1 h2 => by rw [hH]; exact (if_neg h1).trans (if_neg fun z => h2 z.1)
  have look : ∀ b u, H b = some u → (b = T ∧ u = .tbl #[]) ∨ (b = a ∧ K.lookup a = none ∧ u = .frz oS (.lst (ns.map V.int))) := fun b u h => by
    by_cases h1 : b = T
    · subst h1
      rw [hT] at h
      cases h
      exact .inl ⟨rfl, rfl⟩
    · by_cases h2 : b = a
      · subst h2
        cases e : K.lookup b with
        | none =>
          rw [hA e] at h
          cases h
          exact .inr ⟨rfl, rfl, rfl⟩
        | some o =>
          rw [hA' (by rw [e]; exact fun z => nomatch z)] at h
          cases h
      · rw [hO b h1 h2] at h
        cases h
  -- an object of another kind is not tracked
  have free : ∀ {b : Addr} {o : Obj}, s.heap.get? b = some o → o.data ≠ .fields #[] → (∀ xs n, o.data ≠ .seq xs n) → H b = none := fun {b o} e n1 n2 => by
    cases q : H b with
    | none => rfl
    | some u =>
      rcases look b u q with ⟨z, _⟩ | ⟨z, _, _⟩
      · rw [z, tb] at e
        cases e
        exact absurd rfl n1
      · rw [z, sc] at e
        cases e
        exact absurd rfl (n2 _ _)
  have ns_ : ∀ {b : Addr} {m : Str → Option Value}, s.heap.Ns b m → (hidT s.heap H).Ns b m := fun ⟨o, es, ep, e, d, r⟩ =>
    ⟨o, es, ep, hidT_get e (free e (by rw [d]; exact fun z => nomatch z) (by rw [d]; exact fun _ _ z => nomatch z)), d, r⟩
  have kin : K.In (hidT s.heap H) := fun b o e => hidT_get (KX b o e) (by
    cases q : H b with
    | none => rfl
    | some u =>
      rcases look b u q with ⟨z, _⟩ | ⟨z, z2, _⟩
      · rw [z, tn] at e
        cases e
      · rw [z, z2] at e
        cases e)
  have hok : HOk P w H s.heap := fun b u h => by
    rcases look b u h with ⟨rfl, rfl⟩ | ⟨rfl, _, rfl⟩
    · exact tb
    · exact ⟨sc, by rw [List.length_map]; exact sl, vs, _, vals_ints si, sc⟩
  have e0 : Env0 P w K mg (hidT s.heap H) callerA [] s H := ⟨rfl, ⟨kin, ns_ g1, ⟨mb, ns_ g2, g3⟩, let ⟨mc, h1, h2⟩ := g4; ⟨mc, ns_ h1, h2⟩⟩, fun b o e => of_hidT e, Nat.le_of_eq (hidT_size _ _), trivial, (fun b hb => nomatch (show b ∈ ([] : List Addr) from hb)), hok, .of_eq g5⟩
  have at0 : At0 K H a T ns := ⟨by
    cases e : K.lookup a with
    | none => exact .inl ⟨oS, hA e⟩
    | some o =>
      have q := KX a o e
      rw [sc] at q
      cases q
      exact .inr (.inr ⟨_, vs.toArray, _, e, rfl, rfl, rfl, by rw [List.size_toArray, si.length]; exact sl, by simpa using vals_ints si⟩), hT, fun b u h => (look b u h).imp id fun z => ⟨_, _, z.2.2⟩⟩
  have gT : mainGlobals ≠ T := fun z => by
    obtain ⟨o, es, ep, e, d, _⟩ := g1
    rw [z, tb] at e
    cases e
    cases d
  have tB : LamX.TabB (hidT s.heap H) mg c T := by
    obtain ⟨o, us, file, tf, flags, tg, inF, text, tt, e1, r1, r2, r3, r4, r5, r6, r7, r8, hne⟩ := id tc
    obtain ⟨bm, ob, b1, b2, b3, b4, b5, b6⟩ := g6
    refine ⟨⟨o, us, file, tf, flags, tg, inF, text, tt, hidT_get e1 (free e1 (fun z => ?_) (by rw [r2]; exact fun _ _ z => nomatch z)), r1, r2, r3, r4, r5, r6, r7, r8, hne⟩, ⟨bm, ob, b1, b2, fun z => ?_, fun z => ?_, hidT_get b3 (free b3 (by rw [b6]; exact fun z => nomatch z) (by rw [b6]; exact fun _ _ z => nomatch z)), b4, b5, b6⟩, gT⟩
    · rw [r2] at z
      cases z
      simp at r3
    · obtain ⟨o, es, ep, e, d, _⟩ := g1
      rw [z, e] at b3
      cases b3
      rw [d] at b6
      cases b6
    · rw [z, tb] at b3
      cases b3
      cases b6
  refine codeAny_mono (call H at0 e0 tB) fun r s' h => ?_
  cases r with
  | error e =>
    obtain ⟨_, _, _, _, _, _, _, _, _, _, _, _, z⟩ := h
    exact z.elim
  | ok fl =>
    cases fl with
    | next => exact False.elim h
    | brk => exact False.elim h
    | cont => exact False.elim h
    | ret u =>
      obtain ⟨v, H', os, bare, un, hok', r', q⟩ := h
      subst q
      obtain rfl : u = Value.bool true := r'
      obtain ⟨more, hm⟩ := un.tbls T #[] hT
      have tnew : s'.heap.get? T = some { cls := .none, data := .fields (#[] ++ more) } := hok' T _ hm
      have stay : ∀ b o, b ≠ T → s.heap.get? b = some o → s'.heap.get? b = some o := fun b o nb e => by
        cases q : H b with
        | none => exact un.keep b o e q (fun z => nomatch (show b ∈ ([] : List Addr) from z)) (fun z => nomatch z)
        | some u =>
          rcases look b u q with ⟨z, _⟩ | ⟨rfl, _, rfl⟩
          · exact absurd z nb
          · obtain ⟨e2, _⟩ := hok' b _ (un.frzs b _ _ q)
            rw [sc] at e
            cases e
            exact e2
      refine ⟨rfl, ⟨fun b o e => ?_, fun b o e => ?_⟩, os, bare⟩
      · by_cases hb : b = T
        · subst hb
          rw [tb] at e
          cases e
          exact .inr (.inl ⟨(tc.tab tb).isCodeTable, rfl, #[], more, rfl, tnew⟩)
        · exact .inl (stay b o hb e)
      · by_cases hb : b = T
        · subst hb
          exact ⟨_, tnew⟩
        · exact ⟨o, stay b o hb e⟩
end
end VL


/-! VR: the law, from its derivation and what its mirror tells. -/
namespace VL
open PySem PySem.Spec L2
open PyProof.Rows hiding St

def lawP : Po := ⟨fun _ => False, fun r e => vw e r = some (.bool true), fun _ => False, fun _ => False, fun _ _ => False⟩
def lawEnv (n : Nat) (ns : List Int) : En := some (.io (.scr ns)) :: List.replicate n none
/-- what the law may write: the table -/
def lawB (H : Hp) (T : Addr) (s : St) (q0 : Str) : Bs := ⟨H, fun b => if b = T then some .bs else none, fun b => b = T, s, fun P q => P = T ∧ q = q0⟩
theorem law_call {P : Program} {w : World} {K : PySem.W.Frag} {mg : Str → Option Value} {base : Heap} {s : Shared} {H : Hp} {fa a c T : Addr} {ns : List Int} {N : List Str} {st : Stmt} {fd : FuncData} {k n : Nat} {m : S} {q0 : Value → Str} (F : Fun K ("law" : Str) ("law" : Str) st fa fd) (Sc : FnScope N [("script" : Str)] (defScope st))
    (hn : N.length = n + 1) (hr : Room (k + 1) callerA) (hb : BindsTo s fd ⟨[.ref a], []⟩ [("script", .ref a)]) (hc : fd.code = .ref c) (A0 : At0 K H a T ns) (e0 : Env0 P w K mg base callerA [] s H) (TB : LamX.TabB base mg c T)
    (hd : ∀ cdv : Value, cdv = .ref c → Room k (callerA.deeper (envOfC ("law" : Str) (defScope st) s.heap.objs.size fa cdv)) →
      VSs (cxOf (L2.CX P w) P w K mg base N ("law" : Str) (defScope st) fa cdv callerA [] s H fun _ _ _ => False) (lawB H T (L2.start N [.ref a]) (q0 cdv)) (fun _ _ _ _ => False) (defBody st) m)
    (hm : (m (lawEnv n ns)).wp lawP) : codeAny (model P w) callerA (.call (.ref fa) ⟨[.ref a], []⟩) (CR (L2.CX P w) [] P w H s (fun v _ => v = .bl true) fun _ _ _ => False) s := by
  obtain ⟨oc, od, kV, doc, pm, an, cdv, ct, osl, rfl, lk, hcg⟩ := F.ex
  have hcv : cdv = .ref c := hc
  refine LamX.run_ofS (ps := [("script" : Str)]) (us := [.ref a]) (vs := [.ref a]) lk hcg Sc hr e0 hb (.cons rfl .nil) rfl fun hr' => ⟨_, hd cdv hcv hr', fun b => if b = T then some .bs else none, lawEnv n ns, [], ?_, NoB.nil, ?_⟩
  · have est : L2.start N [V.ref a] = some (V.ref a) :: List.replicate n none := by
      unfold L2.start
      simp [hn]
    refine ⟨?_, fun i t hi => ?_, fun k' r v hk => by simp at hk, fun b u hb' hn' => ⟨hb', rfl⟩, fun b u hb' hn' => .inl (if_neg hn'), fun i o hi => rfl, fun P' q' hT => ?_⟩
    · rw [est]
      simp [lawEnv]
    · rw [est]
      cases i with
      | zero =>
        cases hi
        exact ⟨_, rfl, a, rfl, A0.scr⟩
      | succ i =>
        simp [lawEnv, List.getElem?_replicate] at hi
    · obtain ⟨rfl, rfl⟩ := hT
      exact ⟨.inr (if_pos rfl), #[], A0.tab, True.intro, fun pos cv z => by simp [codeAmong] at z⟩
  · cases hx : m (lawEnv n ns) with
    | rt r e =>
      rw [hx] at hm
      intro v σ c' H' R
      exact (R.vw R.top hm).bool
    | nx e => rw [hx] at hm; exact hm.elim
    | bk e => rw [hx] at hm; exact hm.elim
    | ct e => rw [hx] at hm; exact hm.elim
    | er x e => rw [hx] at hm; exact hm.elim
    | bad => rw [hx] at hm; exact hm.elim
/-- the end of a law's row -/
theorem walk_law {l : PySem.W.OpenLaw} {n : Nat} {q : Program} {loose : List Str} {XP : (Str → Option Value) → Heap → Prop} {YP : World → Heap → Prop} {d d0 : DefRec} {K : Params → PySem.W.Frag} (hn : l.most = some n) (hn2 : n ≤ sizeLine) (hdf : d.params.defaults = [])
    (hY : ∀ (w : World) (h : Heap), YP w h → (K w.params).In h) (hrec : (recsOf q).find? (fun e => e.name == ("law" : Str)) = some d0) (hnm : d.name = ("law" : Str))
    (F : ∀ (w : World) (mg : Str → Option Value) (fa : Addr) (h : Heap), (K w.params).In h → h.Ns mainGlobals mg → mg ("law" : Str) = some (.ref fa) → ∃ (c T : Addr), PySem.W.tabIn (K w.params) ("law" : Str) = some (c, T) ∧ (K w.params).lookup T = none ∧
      ∀ (base : Heap) (s : Shared) (H : Hp) (a : Addr) (ns : List Int), ns.length ≤ n → (K w.params).In s.heap → s.heap.Ns mainGlobals mg → At0 (K w.params) H a T ns → Env0 l.prog w (K w.params) mg base callerA [] s H → LamX.TabB base mg c T →
        codeAny (model l.prog w) callerA (.call (.ref fa) ⟨[.ref a], []⟩) (CR (L2.CX l.prog w) [] l.prog w H s (fun v _ => v = .bl true) fun _ _ _ => False) s) :
    PySem.W.WalkO q loose XP YP l.row.toRowW d [] (fun f vs => PySem.call f vs) := by
  refine Att.attach_callB hn hdf fun w s₀ s₁ mg mb fa o pm cd doc a vs ns G Y ho hd hcd hmg hobj hints hlen hbits hg => ?_
  have KX := hY w _ Y
  rw [hnm] at hmg
  obtain ⟨c, T, t1, t2, call⟩ := F w mg fa _ KX G.T.g hmg
  obtain ⟨t3, t4⟩ := PySem.W.tab_of G.T KX hrec t1
  exact law_go KX G.T.g G.T.b G.T.builtins G.T.nolimit hg G.T.bmain t4 t2 t3 hobj hints (Nat.le_trans hlen hn2) fun H A0 e0 TB => call _ s₁ H a ns hlen KX G.T.g A0 e0 TB
end VL


/-! VS: calls by names alone. -/
namespace VL
open PySem PySem.Spec L2
open PyProof.Rows hiding St

def permL {α : Type} (pm : List Nat) (xs : List α) : List α := pm.filterMap fun i => xs[i]?
/-- what is known of a def that is called by the names of its arguments: those in the text's order, and where each parameter's stands there -/
def CalK (P : Program) (w : World) (K : PySem.W.Frag) (mg : Str → Option Value) (base : Heap) (k : Nat) (x : Str) (ps ks : List Str) (pm : List Nat) (F : Fn) : Prop :=
  ∃ (f : Addr) (fd : FuncData), FnOk P w K mg base (L2.CX P w) k f fd ps (FnSem K mg F) ∧ mg x = some (.ref f) ∧ PySem.W.keepIn K (.ref f) = true ∧ ∀ (s : Shared) (ws : List Value), ws.length = ks.length → BindsTo s fd ⟨[], ks.zip ws⟩ (ps.zip (permL pm ws))
theorem PK.imp {X : Cx} {e : List Keyword} {t t' : TA} (h : PK X e t) (w : ∀ σ H Q, t' σ H Q → t σ H Q) : PK X e t' := ⟨fun pos pins s σ H Q I q => h.run pos pins s σ H Q I (w _ _ _ q)⟩
def VK1 (X : Cx) (B : Bs) (W : WX) (es : List Keyword) (m : M (List R)) : Prop := PK X es (tA B X.K X.mg W m)
section
variable {X : Cx} {B : Bs} {W : WX}
theorem vk_nil : VK1 X B W [] (M.ret []) := by
  refine PK.imp pk_nil fun σ H Q h => ?_
  obtain ⟨c, e, τ, r, h⟩ := h
  exact h [] c H rfl (by rw [List.zip_nil_left, List.append_nil]; exact r)
theorem vk_cons {e : Expr} {es : List Keyword} {nm : Option Str} {kpos : Pos} {m : M R} {ms : M (List R)} (ha : VE X B W e m) (hr : VK1 X B W es ms) : VK1 X B W (⟨nm, e, kpos⟩ :: es) (mCons m ms) := by
  refine PK.imp (pk_cons ha hr) fun σ H Q h => ?_
  obtain ⟨c, e, τ, r, h⟩ := h
  refine ⟨c, e, τ, r, wp_mono (wp_bind h) (fun r1 e1 h1 v c1 H1 R1 => ?_) fun _ _ q => q⟩
  refine ⟨c1, e1, _, R1, wp_mono (wp_bind h1) (fun rs e2 h2 vs c2 H2 hl R2 => ?_) fun x e2 q => q.more⟩
  refine h2 (v :: vs) c2 H2 (by rw [List.length_cons, List.length_cons, hl]) ?_
  rw [List.zip_cons_cons]
  rw [List.append_assoc] at R2
  exact R2
/-- no own thing -/
def flatR : R → Bool
  | .tmp (.val _) => true
  | .bor _ => true
  | _ => false
theorem ROk.flat {K : PySem.W.Frag} {c : Col} {H : Hp} {e : En} {σ : St} {k j : Nat} {r : R} {v : V} (h : ROk K c H e σ k r v) (f : flatR r = true) : ROk K c H e σ j r v := by
  cases r with
  | bor i => exact h
  | tmp t => cases t with
    | val d => exact h
    | _ => cases f
theorem permL_nil {α : Type} {xs : List α} : permL [] xs = [] := rfl
theorem permL_cons {α : Type} {xs : List α} {i : Nat} {pm : List Nat} {x : α} (h : xs[i]? = some x) : permL (i :: pm) xs = x :: permL pm xs := by
  unfold permL
  rw [List.filterMap_cons, h]
theorem Rel.perm {K : PySem.W.Frag} {c : Col} {e : En} {τ : List (R × V)} {σ : St} {H : Hp} {rs : List R} {vs : List V} (hl : vs.length = rs.length) (R : Rel B K c e (τ ++ rs.zip vs) σ H) (fl : rs.all flatR = true) :
    ∀ pm : List Nat, (∀ i ∈ pm, i < rs.length) → (permL pm vs).length = (permL pm rs).length ∧ Rel B K c e (τ ++ (permL pm rs).zip (permL pm vs)) σ H := by
  intro pm
  suffices g : ∀ (pm : List Nat) (υ : List (VL.R × V)), (∀ i ∈ pm, i < rs.length) → Rel B K c e (τ ++ υ) σ H → (permL pm vs).length = (permL pm rs).length ∧ Rel B K c e (τ ++ (υ ++ (permL pm rs).zip (permL pm vs))) σ H from
    fun h => by simpa using g pm [] h (by rw [List.append_nil]; exact R.pops)
  intro pm
  induction pm with
  | nil => intro υ _ h; exact ⟨rfl, by simpa [permL_nil] using h⟩
  | cons i pm ih =>
    intro υ hi h
    have hlt := hi i List.mem_cons_self
    have e1 : rs[i]? = some rs[i] := List.getElem?_eq_getElem hlt
    have e2 : vs[i]? = some (vs[i]'(by omega)) := List.getElem?_eq_getElem _
    rw [permL_cons e1, permL_cons e2, List.zip_cons_cons]
    have z : (rs.zip vs)[i]? = some (rs[i], vs[i]'(by omega)) := by
      rw [List.getElem?_zip_eq_some]
      exact ⟨e1, e2⟩
    have ok := R.tm (τ.length + i) _ _ (by rw [List.getElem?_append_right (Nat.le_add_right _ _), Nat.add_sub_cancel_left]; exact z)
    have fi : flatR rs[i] = true := List.all_eq_true.mp fl _ (List.getElem_mem hlt)
    obtain ⟨h1, h2⟩ := ih (υ ++ [(rs[i], vs[i]'(by omega))]) (fun j hj => hi j (List.mem_cons_of_mem _ hj)) (by
      rw [← List.append_assoc]
      exact h.push (ok.flat fi))
    refine ⟨by rw [List.length_cons, List.length_cons, h1], ?_⟩
    rw [List.append_assoc] at h2
    exact h2

def mCallK (F : Fn) (fa : Bool) (pm : List Nat) (ms : M (List R)) : M R := ms.bind fun rs => (passL none fa 0 rs).bind fun rs => if rs.all flatR = true ∧ (pm.all fun i => decide (i < rs.length)) = true then appF F none (permL pm rs) else fun _ => .bad
theorem ve_callKw {k j : Nat} {ps ks : List Str} {F : Fn} {x : Str} {nm : Option Str} {e1 : Expr} {kp : Pos} {kws : List Keyword} {ms : M (List R)} {p pos : Pos} (fa : Bool) (pm : List Nat) (C : CalK X.prog X.w X.K X.mg X.base k x ps ks pm F) (hr : Room j X.A) (tk : Takes X W) (ha : VK1 X B W (⟨nm, e1, kp⟩ :: kws) ms) (hkj : k ≤ j := by decide) (hg : Gl X x := by rfl)
    (hall : (backToKw pos (keywordEach (⟨nm, e1, kp⟩ :: kws) X.env)).all (·.1.isSome) = true := by rfl) (hks : (backToKw pos (keywordEach (⟨nm, e1, kp⟩ :: kws) X.env)).filterMap (·.1) = ks := by rfl) (hkl : ks.length = (⟨nm, e1, kp⟩ :: kws : List Keyword).length := by rfl) (hdb : (x == ("__debug__" : Str)) = false := by decide)
    (hpl : ((backTo pos (starEach [] X.env)).any (·.1) || (backToKw pos (keywordEach (⟨nm, e1, kp⟩ :: kws) X.env)).any (·.1.isNone)) = false := by rfl) (hz : ∀ {e : En} {rs : List R} {e' : En}, ms e = .ok rs e' → rs.length = (⟨nm, e1, kp⟩ :: kws : List Keyword).length) :
    VE X B W (.Call (.Name x p) [] (⟨nm, e1, kp⟩ :: kws) pos) (mCallK F fa pm ms) := by
  obtain ⟨f, fd, G, hm, hk, hb⟩ := C
  constructor
  intro pins s σ H Q I h
  obtain ⟨c, e, τ, R, h⟩ := h
  refine wpAny_Call_Name_kw (ld_glob I hg hm ?_ hdb)
  refine PySem.W.callWith_KW0 (h₀ := X.base) I.ok.mod.kin hk hall ?_ hpl
  have go := ha.run pos pins s σ H (fun vs H1 => vs.length = ks.length ∧ FnSem X.K X.mg F (permL pm vs) H1 Q (fun cls d H' => W cls d σ H')) I ⟨c, e, τ, R, ?_⟩
  · refine thn go fun ws s2 ⟨zs, H2, I2, rz, hl, q2⟩ => ⟨I2.kIn, ?_⟩
    rw [hks]
    show wpAny _ _ (call (.ref f) [] (ks.zip ws)) _ _ _
    have hl2 : ws.length = ks.length := by rw [← rz.length]; exact hl
    have rp : ∀ pm : List Nat, Vals (permL pm zs) (permL pm ws) := fun pm => by
      induction pm with
      | nil => exact .nil
      | cons i pm ih =>
        cases hv : zs[i]? with
        | none =>
          have hn : ws[i]? = none := by
            rw [List.getElem?_eq_none_iff, ← rz.length]
            exact List.getElem?_eq_none_iff.mp hv
          have e1 : permL (i :: pm) zs = permL pm zs := by unfold permL; rw [List.filterMap_cons, hv]
          have e2 : permL (i :: pm) ws = permL pm ws := by unfold permL; rw [List.filterMap_cons, hn]
          rw [e1, e2]
          exact ih
        | some v =>
          obtain ⟨u, hu, ru⟩ := rz.get hv
          rw [permL_cons hv, permL_cons hu]
          exact .cons ru ih
    refine wpAny_call (codeAny_mono (G.mono hkj |>.run X.A X.stack s2 H2 ⟨[], ks.zip ws⟩ (permL pm ws) (permL pm zs) Q (fun cls d H' => W cls d σ H') hr I2.env0 (hb s2 ws hl2) (rp pm) q2) fun r s' hq => ?_)
    cases r with
    | error e => exact passAt tk σ pins H2 s2 e s' I2 hq
    | ok fl =>
      cases fl with
      | ret u => exact I2.after hq
      | next => exact False.elim hq
      | brk => exact False.elim hq
      | cont => exact False.elim hq
  · unfold mCallK at h
    cases hms : ms e with
    | bad => rw [show ((ms.bind _) e) = _ from rfl] at h; unfold M.bind at h; rw [hms] at h; exact h.elim
    | er x e2 =>
      unfold M.bind at h
      rw [hms] at h
      exact h
    | ok rs e2 =>
      unfold M.bind at h
      rw [hms] at h
      intro vs c1 H1 hl R1
      refine ⟨by rw [hl, hz hms, hkl], ?_⟩
      obtain ⟨rs', c2, e3, hl2, R2, h2⟩ := passL_ok hl R1 (wp_bind h)
      split at h2
      · rename_i hc
        obtain ⟨h3, R3⟩ := R2.perm (by rw [hl, hl2]) hc.1 pm (fun i hi => of_decide_eq_true (List.all_eq_true.mp hc.2 i hi))
        exact app_ok h3 R3 h2
      · exact h2.elim
theorem len_nil {e : En} {rs : List R} {e' : En} (h : (M.ret ([] : List R)) e = .ok rs e') : rs.length = 0 := by
  cases h
  rfl
theorem len_cons {m : M R} {ms : M (List R)} {n : Nat} (g : ∀ {e : En} {rs : List R} {e' : En}, ms e = .ok rs e' → rs.length = n) {e : En} {rs : List R} {e' : En} (h : mCons m ms e = .ok rs e') : rs.length = n + 1 := by
  unfold mCons M.bind at h
  cases h1 : m e with
  | ok r e1 =>
    rw [h1] at h
    simp only at h
    cases h2 : ms e1 with
    | ok rs1 e2 =>
      rw [h2] at h
      cases h
      exact congrArg (· + 1) (g h2)
    | er x e2 => rw [h2] at h; cases h
    | bad => rw [h2] at h; cases h
  | er x e1 => rw [h1] at h; cases h
  | bad => rw [h1] at h; cases h
/-! ### a, b = x, y where a name is captured: the pair is made and taken apart -/
theorem vs_parT2 {i j : Nat} {x y : Str} {a b : Expr} {ms : M (List R)} {px py pt pos : Pos} {kt k2 pt2} (hc : X.calm = true) (hN : X.N.Nodup) (hi : X.N[i]? = some x) (hj : X.N[j]? = some y) (hij : i ≠ j)
    (hx : Loc X.env.scope x) (hy : Loc X.env.scope y) (ha : VA X B W [a, b] ms)
    (hs : swapsWithSole [.Tuple [.Name x px, .Name y py] kt pt] (.Tuple [a, b] k2 pt2) pos.line X.env = pure false := by rfl)
    (hw : swappedStores [.Tuple [.Name x px, .Name y py] kt pt] (.Tuple [a, b] k2 pt2) X.env = pure none := by rfl) (hfx : X.fn x = true ∨ X.env.scope.names.lookup x = some .local := by first | exact .inl rfl | exact .inr rfl) (hfy : X.fn y = true ∨ X.env.scope.names.lookup y = some .local := by first | exact .inl rfl | exact .inr rfl) :
    VS X B W (.Assign [.Tuple [.Name x px, .Name y py] kt pt] (.Tuple [a, b] k2 pt2) pos) (sPar2 i j ms) := by
  refine PS.imp (ps_asg (pe_tup ha) (pg_tup (n := 2) hc (pgs_cons (pg_name hN hi hx hfx) (pgs_cons (pg_name hN hj hy hfy) pgs_nil))) hs hw) fun D σ H h => ?_
  obtain ⟨c, e, τ, R, nb, h⟩ := h
  refine ⟨c, e, τ, R, wp_mono (wp_run h) (fun rs e1 q vs c1 H1 hl R1 => ?_) fun _ _ q => q σ⟩
  split at q
  · rename_i r r'
    split at q
    · rename_i ht
      split at q
      · rename_i e2 h2
        split at q
        · rename_i e3 h3
          match vs, hl with
          | [v, w], _ =>
            refine ⟨le_size (show 2 ≤ 1000 by decide), fun p hp => ⟨p, [v, w], rfl, .inl (.inl upd_same), rfl, v, [w], rfl, w, [], rfl, rfl, ?_⟩⟩
            have R2 : Rel B X.K (c1.set p none) e1 ((τ ++ [(r, v)]) ++ [(r', w)]) σ (upd H1 p (.tup [v, w])) := by rw [List.append_assoc]; exact R1.alloc none hp
            obtain ⟨c3, R3⟩ := R2.store (nb.snoc ht) h2
            obtain ⟨c4, R4⟩ := R3.store nb h3
            rw [List.set_comm _ _ (Ne.symm hij)] at R4
            exact q _ c4 _ R4
        · exact q.elim
      · exact q.elim
    · exact q.elim
  · exact q.elim
theorem vs_parT3 {i j l : Nat} {x y z : Str} {a b d : Expr} {ms : M (List R)} {px py pz pt pos : Pos} {kt k2 pt2} (hc : X.calm = true) (hN : X.N.Nodup) (hi : X.N[i]? = some x) (hj : X.N[j]? = some y) (hl : X.N[l]? = some z) (hij : i ≠ j) (hil : i ≠ l) (hjl : j ≠ l)
    (hx : Loc X.env.scope x) (hy : Loc X.env.scope y) (hz : Loc X.env.scope z) (ha : VA X B W [a, b, d] ms)
    (hs : swapsWithSole [.Tuple [.Name x px, .Name y py, .Name z pz] kt pt] (.Tuple [a, b, d] k2 pt2) pos.line X.env = pure false := by rfl)
    (hw : swappedStores [.Tuple [.Name x px, .Name y py, .Name z pz] kt pt] (.Tuple [a, b, d] k2 pt2) X.env = pure none := by rfl) (hfx : X.fn x = true ∨ X.env.scope.names.lookup x = some .local := by first | exact .inl rfl | exact .inr rfl) (hfy : X.fn y = true ∨ X.env.scope.names.lookup y = some .local := by first | exact .inl rfl | exact .inr rfl) (hfz : X.fn z = true ∨ X.env.scope.names.lookup z = some .local := by first | exact .inl rfl | exact .inr rfl) :
    VS X B W (.Assign [.Tuple [.Name x px, .Name y py, .Name z pz] kt pt] (.Tuple [a, b, d] k2 pt2) pos) (sPar3 i j l ms) := by
  refine PS.imp (ps_asg (pe_tup ha) (pg_tup (n := 3) hc (pgs_cons (pg_name hN hi hx hfx) (pgs_cons (pg_name hN hj hy hfy) (pgs_cons (pg_name hN hl hz hfz) pgs_nil)))) hs hw) fun D σ H h => ?_
  obtain ⟨c, e, τ, R, nb, h⟩ := h
  refine ⟨c, e, τ, R, wp_mono (wp_run h) (fun rs e1 q vs c1 H1 hl R1 => ?_) fun _ _ q => q σ⟩
  split at q
  · rename_i r r' r''
    split at q
    · rename_i ht
      split at q
      · rename_i e2 h2
        split at q
        · rename_i e3 h3
          split at q
          · rename_i e4 h4
            match vs, hl with
            | [u, v, w], _ =>
              refine ⟨le_size (show 3 ≤ 1000 by decide), fun p hp => ⟨p, [u, v, w], rfl, .inl (.inl upd_same), rfl, u, [v, w], rfl, v, [w], rfl, w, [], rfl, rfl, ?_⟩⟩
              have R2 : Rel B X.K (c1.set p none) e1 (((τ ++ [(r, u)]) ++ [(r', v)]) ++ [(r'', w)]) σ (upd H1 p (.tup [u, v, w])) := by rw [List.append_assoc, List.append_assoc]; exact R1.alloc none hp
              obtain ⟨c3, R3⟩ := R2.store ((nb.snoc ht.1).snoc ht.2) h2
              obtain ⟨c4, R4⟩ := R3.store (nb.snoc ht.1) h3
              obtain ⟨c5, R5⟩ := R4.store nb h4
              rw [List.set_comm _ _ (Ne.symm hjl), List.set_comm _ _ (Ne.symm hil), List.set_comm _ _ (Ne.symm hij)] at R5
              exact q _ c5 _ R5
          · exact q.elim
        · exact q.elim
      · exact q.elim
    · exact q.elim
  · exact q.elim
end
end VL


/-! VT: reckoning with mirrors. -/
namespace VL
open PySem PySem.Spec L2
open PyProof.Rows hiding St

section
variable {α β : Type} {e e' : En} {Q : α → En → Prop} {E : Ex → En → Prop} {P : Po}
@[simp] theorem e_ok {a : α} : ((Ev.ok a e).wp Q E) = Q a e := rfl
@[simp] theorem e_er {x : Ex} : ((Ev.er x e : Ev α).wp Q E) = E x e := rfl
@[simp] theorem e_bad : ((Ev.bad : Ev α).wp Q E) = False := rfl
@[simp] theorem e_bind {m : M α} {f : α → M β} {Q : β → En → Prop} : ((m.bind f e).wp Q E) = ((m e).wp (fun a e' => (f a e').wp Q E) E) := propext ⟨wp_bind, wp_bind'⟩
@[simp] theorem e_ret {a : α} : ((M.ret a e).wp Q E) = Q a e := rfl
@[simp] theorem e_some {a : α} : ((M.of (some a) e).wp Q E) = Q a e := rfl
@[simp] theorem e_none : ((M.of (none : Option α) e).wp Q E) = False := rfl
@[simp] theorem s_nx : ((Fl.nx e).wp P) = P.nx e := rfl
@[simp] theorem s_rt {r : R} : ((Fl.rt r e).wp P) = P.rt r e := rfl
@[simp] theorem s_bk : ((Fl.bk e).wp P) = P.bk e := rfl
@[simp] theorem s_ct : ((Fl.ct e).wp P) = P.ct e := rfl
@[simp] theorem s_er {x : Ex} : ((Fl.er x e).wp P) = P.er x e := rfl
@[simp] theorem s_bad : (Fl.bad.wp P) = False := rfl
@[simp] theorem s_seq {a b : S} : ((S.seq a b e).wp P) = (a e).wp { P with nx := fun e' => (b e').wp P } := propext ⟨wp_seq, wp_seq'⟩
@[simp] theorem s_run {m : M α} {k : α → S} : ((S.run m k e).wp P) = (m e).wp (fun a e' => (k a e').wp P) P.er := propext ⟨wp_run, wp_run'⟩
@[simp] theorem s_skip : ((S.skip e).wp P) = P.nx e := rfl
end
/-! ### loops -/
theorem for_wp {g : Tg} {b : S} {P : Po} (I : Nat → En → Prop) : ∀ {ds : List Dt} {e : En} (k : Nat), I k e → (∀ i d e, ds[i]? = some d → I (k + i) e → ∃ e1, g d e = some e1 ∧ (b e1).wp ⟨I (k + i + 1), P.rt, P.nx, I (k + i + 1), P.er⟩) → (∀ e, I (k + ds.length) e → P.nx e) → (itF g b ds e).wp P
  | [], e, k, h0, _, hd => hd e h0
  | d :: ds, e, k, h0, hs, hd => by
    obtain ⟨e1, h1, h2⟩ := hs 0 d e rfl h0
    unfold itF
    rw [h1]
    have go : ∀ e, I (k + 1) e → (itF g b ds e).wp P := fun e he => for_wp I (k + 1) he (fun i d e hi h => by
      have := hs (i + 1) d e (by simpa using hi) (by rw [show k + (i + 1) = k + 1 + i by omega]; exact h)
      rw [show k + (i + 1) + 1 = k + 1 + i + 1 by omega] at this
      exact this) fun e h => hd e (by rw [List.length_cons, show k + (ds.length + 1) = k + 1 + ds.length by omega]; exact h)
    simp only
    cases hb : b e1 with
    | nx e2 => rw [hb] at h2; exact go e2 h2
    | ct e2 => rw [hb] at h2; exact go e2 h2
    | bk e2 => rw [hb] at h2; exact h2
    | rt r e2 => rw [hb] at h2; exact h2
    | er x e2 => rw [hb] at h2; exact h2
    | bad => rw [hb] at h2; exact h2
/-- a for loop by an invariant of the turn -/
theorem sFor_wp {m : M (List Dt)} {g : Tg} {b : S} {e : En} {P : Po} (h : (m e).wp (fun ds e' => ∃ I : Nat → En → Prop, I 0 e' ∧ (∀ i d e, ds[i]? = some d → I i e → ∃ e1, g d e = some e1 ∧ (b e1).wp ⟨I (i + 1), P.rt, P.nx, I (i + 1), P.er⟩) ∧ ∀ e, I ds.length e → P.nx e) P.er) : (sFor m g b e).wp P := by
  unfold sFor
  rw [s_run]
  refine wp_mono h (fun ds e' ⟨I, h0, hs, hd⟩ => ?_) fun _ _ q => q
  exact for_wp I 0 h0 (fun i d e hi h => by rw [Nat.zero_add] at h ⊢; exact hs i d e hi h) fun e h => hd e (by rw [Nat.zero_add] at h; exact h)
/-- a while loop by an invariant that falls -/
theorem sWhile_wp {t : M Bool} {b : S} {P : Po} (I : Nat → En → Prop) (h : ∀ n e, I n e → (t e).wp (fun k e1 => if k = true then (b e1).wp ⟨fun e => ∃ j, j < n ∧ I j e, P.rt, P.nx, fun e => ∃ j, j < n ∧ I j e, P.er⟩ else P.nx e1) P.er) :
    ∀ (n : Nat) {e : En}, I n e → (sWhile t b e).wp P := by
  intro n
  suffices g : ∀ n e, I n e → ∃ f, itW t b (n + 1) e = some f ∧ f.wp P from fun e he => by
    obtain ⟨f, h1, h2⟩ := g n e he
    rw [sWhile_eq h1]
    exact h2
  intro n
  induction n using Nat.strongRecOn with
  | ind n ih =>
    intro e he
    have h1 := h n e he
    unfold itW
    cases ht : t e with
    | bad => rw [ht] at h1; exact h1.elim
    | er x e1 => rw [ht] at h1; exact ⟨_, rfl, h1⟩
    | ok k e1 =>
      rw [ht] at h1
      cases k with
      | false => exact ⟨_, rfl, h1⟩
      | true =>
        have h2 : (b e1).wp _ := h1
        simp only
        have more : ∀ e2, (∃ j, j < n ∧ I j e2) → ∃ f, itW t b n e2 = some f ∧ f.wp P := fun e2 ⟨j, hj, hi⟩ => by
          obtain ⟨f, q1, q2⟩ := ih j hj e2 hi
          exact ⟨f, itW_le q1 n hj, q2⟩
        cases hb : b e1 with
        | nx e2 => rw [hb] at h2; exact more e2 h2
        | ct e2 => rw [hb] at h2; exact more e2 h2
        | bk e2 => rw [hb] at h2; exact ⟨_, rfl, h2⟩
        | rt r e2 => rw [hb] at h2; exact ⟨_, rfl, h2⟩
        | er x e2 => rw [hb] at h2; exact ⟨_, rfl, h2⟩
        | bad => rw [hb] at h2; exact h2.elim
/-- a comprehension by an invariant of the turn -/
theorem itL_wp {g : Tg} {t : M Bool} {m : M R} {vs : List Nat} {oi : Option Nat} {all : List Dt} {Q : List Dt → En → Prop} (I : Nat → List Dt → En → Prop) : ∀ {ds : List Dt} {acc : List Dt} {e : En} (k : Nat), I k acc e →
    (∀ i acc e, I i acc e → i ≤ k + ds.length → asWas oi all e = true) →
    (∀ i d acc e, ds[i]? = some d → I (k + i) acc e → ∃ e1, g d (wipeE e vs) = some e1 ∧ (t e1).wp (fun b e2 => if b = true then (m e2).wp (fun r e3 => ∃ y e4, fz e3 r = some (y, e4) ∧ acc.length < 16777216 ∧ I (k + i + 1) (acc ++ [y]) e4) (fun _ _ => False) else I (k + i + 1) acc e2) (fun _ _ => False)) →
    (∀ acc e, I (k + ds.length) acc e → Q acc e) → (itL g t m vs oi all ds acc e).wp Q (fun _ _ => False)
  | [], acc, e, k, h0, ha, _, hd => by
    unfold itL
    rw [if_pos (ha k acc e h0 (Nat.le_refl _))]
    exact hd acc e h0
  | d :: ds, acc, e, k, h0, ha, hs, hd => by
    unfold itL
    rw [if_pos (ha k acc e h0 (Nat.le_add_right _ _))]
    obtain ⟨e1, h1, h2⟩ := hs 0 d acc e rfl h0
    have go : ∀ acc e, I (k + 1) acc e → (itL g t m vs oi all ds acc e).wp Q (fun _ _ => False) := fun acc e he => itL_wp I (k + 1) he
      (fun i acc e h hi => ha i acc e h (by rw [List.length_cons]; omega)) (fun i d acc e hi h => by
        have := hs (i + 1) d acc e (by simpa using hi) (by rw [show k + (i + 1) = k + 1 + i by omega]; exact h)
        rw [show k + (i + 1) + 1 = k + 1 + i + 1 by omega] at this
        exact this) fun acc e h => hd acc e (by rw [List.length_cons, show k + (ds.length + 1) = k + 1 + ds.length by omega]; exact h)
    rw [h1]
    simp only
    cases ht : t e1 with
    | bad => rw [ht] at h2; exact h2.elim
    | er x e2 => rw [ht] at h2; exact h2.elim
    | ok b e2 =>
      rw [ht] at h2
      cases b with
      | false => exact go acc e2 h2
      | true =>
        simp only
        have h3 : (m e2).wp _ _ := h2
        cases hm : m e2 with
        | bad => rw [hm] at h3; exact h3.elim
        | er x e3 => rw [hm] at h3; exact h3.elim
        | ok r e3 =>
          rw [hm] at h3
          obtain ⟨y, e4, h4, h5, h6⟩ := h3
          simp only
          rw [h4]
          simp only
          have hsm : small (acc.length + 1) = true := decide_eq_true (by omega)
          rw [if_pos hsm]
          exact go _ _ h6
theorem mLc_wp {mi : M It2} {g : Tg} {t : M Bool} {m : M R} {vs : List Nat} {e : En} {Q : R → En → Prop} {E : Ex → En → Prop} (h : (mi e).wp (fun ds e' => ((vs.all fun v => plain e' v) = true ∧ ∀ i, ds.2 = some i → i ∉ vs) ∧ ∃ I : Nat → List Dt → En → Prop, I 0 [] e' ∧
      (∀ i acc e, I i acc e → asWas ds.2 ds.1 e = true) ∧
      (∀ i d acc e, ds.1[i]? = some d → I i acc e → ∃ e1, g d (wipeE e vs) = some e1 ∧ (t e1).wp (fun b e2 => if b = true then (m e2).wp (fun r e3 => ∃ y e4, fz e3 r = some (y, e4) ∧ acc.length < 16777216 ∧ I (i + 1) (acc ++ [y]) e4) (fun _ _ => False) else I (i + 1) acc e2) (fun _ _ => False)) ∧
      (∀ acc e, I ds.1.length acc e → Q (.tmp (.own (.lst acc))) (back e' e vs))) E) : (mLc mi g t m vs e).wp Q E := by
  unfold mLc
  rw [e_bind]
  refine wp_mono h (fun ds e' ⟨hc, I, h0, ha, hs, hd⟩ => ?_) fun _ _ q => q
  rw [if_pos hc]
  have := itL_wp (g := g) (t := t) (m := m) (vs := vs) (oi := ds.2) (all := ds.1) (Q := fun acc e => Q (.tmp (.own (.lst acc))) (back e' e vs)) I (ds := ds.1) 0 h0 (fun i acc e h _ => ha i acc e h) (fun i d acc e hi h => by rw [Nat.zero_add] at h ⊢; exact hs i d acc e hi h) fun acc e h => hd acc e (by rw [Nat.zero_add] at h; exact h)
  cases hr : itL g t m vs ds.2 ds.1 ds.1 [] e' with
  | ok acc e2 => rw [hr] at this; exact this
  | er x e2 => rw [hr] at this; exact this.elim
  | bad => rw [hr] at this; exact this.elim
end VL


/-! VU: defs by what they answer; the words that simp opens. -/
namespace VL
open PySem PySem.Spec L2
open PyProof.Rows hiding St

def Re.wp (r : Re) (Q : Tv → Option Ob → Prop) (E : Ex → Option Ob → Prop) : Prop :=
  match r with
  | .ok t os => Q t os
  | .er x os => E x os
  | .bad => False
theorem Re.wp_mono {r : Re} {Q Q' : Tv → Option Ob → Prop} {E E' : Ex → Option Ob → Prop} (h : r.wp Q E) (hQ : ∀ t os, Q t os → Q' t os) (hE : ∀ x os, E x os → E' x os) : r.wp Q' E' := by
  cases r with
  | ok t os => exact hQ _ _ h
  | er x os => exact hE _ _ h
  | bad => exact h
theorem runF_wp {m : S} {n np : Nat} {args : List Tv} {Q : Tv → Option Ob → Prop} {E : Ex → Option Ob → Prop} (hl : args.length = np)
    (h : (m (env0 n args)).wp ⟨fun e => ∃ os, outOf args e = some os ∧ Q (.val .none) os, fun r e => ∃ t os, resOf e r = some t ∧ outOf args e = some os ∧ Q t os, fun _ => False, fun _ => False, fun x e => ∃ os, outOf args e = some os ∧ E x os⟩) : (runF m n np args).wp Q E := by
  unfold runF
  rw [if_pos hl]
  cases hm : m (env0 n args) with
  | nx e => rw [hm] at h; obtain ⟨os, h1, h2⟩ := h; simp only; rw [h1]; exact h2
  | rt r e => rw [hm] at h; obtain ⟨t, os, h0, h1, h2⟩ := h; simp only; rw [h0, h1]; exact h2
  | bk e => rw [hm] at h; exact h.elim
  | ct e => rw [hm] at h; exact h.elim
  | er x e => rw [hm] at h; obtain ⟨os, h1, h2⟩ := h; simp only; rw [h1]; exact h2
  | bad => rw [hm] at h; exact h.elim
@[simp] theorem app_wp {F : Fn} {io : Option Nat} {rs : List R} {e : En} {Q : R → En → Prop} {E : Ex → En → Prop} : ((appF F io rs e).wp Q E) = (∃ args, argsOf io e 0 rs = some args ∧ ((looked io 0 rs).all fun i => !decide (ioSlot io rs = some i)) = true ∧
    (F args).wp (fun t os => ((looked io 0 rs = [] ∨ (noMt t = true ∧ noMos os = true)) ∧ notIo t = true) ∧ ∃ e', putO e (ioSlot io rs) os = some e' ∧ Q (.tmp t) e') (fun x os => (looked io 0 rs = [] ∨ noMos os = true) ∧ ∃ e', putO e (ioSlot io rs) os = some e' ∧ E x e')) := by
  apply propext
  unfold appF
  cases ha : argsOf io e 0 rs with
  | none => simp
  | some args =>
    simp only [Option.some.injEq, exists_eq_left']
    split
    · rename_i h1
      simp only [h1, true_and]
      cases hF : F args with
      | bad => simp [Re.wp]
      | ok t os =>
        simp only [Re.wp]
        split
        · rename_i h2
          cases hp : putO e (ioSlot io rs) os with
          | none => simp
          | some e' => simp [h2]
        · rename_i h2
          simp only [e_bad, false_iff, not_and]
          exact fun h => absurd h h2
      | er x os =>
        simp only [Re.wp]
        split
        · rename_i h2
          cases hp : putO e (ioSlot io rs) os with
          | none => simp
          | some e' => simp [h2]
        · rename_i h2
          simp only [e_bad, false_iff, not_and]
          exact fun h => absurd h h2
    · rename_i h1
      simp [h1]
theorem eqv_nil (ds : List Dt) : PyData.eqv (.list ds) (.list []) = ds.isEmpty := by
  cases ds <;> simp [PyData.eqv, PyData.eqvAll]
end VL


/-! VX: mirrors are run, one rule a construct. -/
namespace VL
open PySem PySem.Spec L2
open PyProof.Rows hiding St

section
variable {e e1 e2 e3 e4 : En} {i j l : Nat} {d d1 d2 d3 : Dt} {o : Ob} {r r1 r2 r3 : R} {rs rs' : List R} {ds ds' es : List Dt} {t : Tv} {m ma mb mc : M R} {ms : M (List R)} {b k : Bool} {f g : Dt → Dt → Option Tv} {x : Ex}
theorem x_val (h : e[i]? = some (some (.val d))) : mVar i e = .ok (.tmp (.val d)) e := by unfold mVar; rw [h]
theorem x_own (h : e[i]? = some (some (.own o))) : mVar i e = .ok (.bor i) e := by unfold mVar; rw [h]
theorem x_io (h : e[i]? = some (some (.io o))) : mVar i e = .ok (.bor i) e := by unfold mVar; rw [h]
theorem x_dat : mDat d e = .ok (.tmp (.val d)) e := rfl
theorem x_bind {α β : Type} {m : M α} {f : α → M β} {a : α} {r : Ev β} (h : m e = .ok a e1) (h2 : f a e1 = r) : m.bind f e = r := by unfold M.bind; rw [h]; exact h2
theorem x_bindE {α β : Type} {m : M α} {f : α → M β} (h : m e = .er x e1) : m.bind f e = .er x e1 := by unfold M.bind; rw [h]
theorem x_look (h : vw e r = some d) : look r e = .ok d e := by unfold look M.of; rw [h]
theorem x_of {α : Type} {o : Option α} {a : α} (h : o = some a) : M.of o e = .ok a e := by rw [h]; rfl
theorem x_op2 (ha : ma e = .ok r1 e1) (hb : mb e1 = .ok r2 e2) (h1 : vw e2 r1 = some d1) (h2 : vw e2 r2 = some d2) (hf : f d1 d2 = some t) : mOp2 f ma mb e = .ok (.tmp t) e2 :=
  x_bind ha (x_bind hb (x_bind (x_look h1) (x_bind (x_look h2) (x_bind (x_of hf) rfl))))
theorem x_op1 {f : Dt → Option Tv} (ha : ma e = .ok r1 e1) (h1 : vw e1 r1 = some d1) (hf : f d1 = some t) : mOp1 f ma e = .ok (.tmp t) e1 :=
  x_bind ha (x_bind (x_look h1) (x_bind (x_of hf) rfl))
theorem x_nil : M.ret ([] : List R) e = .ok [] e := rfl
theorem x_cons (ha : m e = .ok r e1) (hb : ms e1 = .ok rs e2) : mCons m ms e = .ok (r :: rs) e2 := x_bind ha (x_bind hb rfl)
theorem x_callB {f : List Dt → Option Tv} (hs : ms e = .ok rs e1) (hv : vws e1 rs = some ds) (hf : f ds = some t) : mCallB f ms e = .ok (.tmp t) e1 := x_bind hs (x_bind (x_of (o := vws e1 rs) hv) (x_bind (x_of hf) rfl))
theorem small_le {n : Nat} (h : n ≤ 1000000) : small n = true := decide_eq_true (by omega)
theorem x_tup (hs : ms e = .ok rs e1) (hz : frzs rs e1 = .ok ds e2) (hl : small ds.length = true) : mTup ms e = .ok (.tmp (.val (.tuple ds))) e2 := x_bind hs (x_bind hz (by rw [if_pos hl]; rfl))
theorem x_lst (hs : ms e = .ok rs e1) (hz : frzs rs e1 = .ok ds e2) (hl : small ds.length = true) : mLst ms e = .ok (.tmp (.own (.lst ds))) e2 := x_bind hs (x_bind hz (by rw [if_pos hl]; rfl))
theorem x_test (h : m e = .ok r e1) (hv : vw e1 r = some (.bool b)) : mTest m e = .ok b e1 := x_bind h (x_bind (x_look hv) rfl)
theorem x_not {t : M Bool} (h : t e = .ok b e1) : mNot t e = .ok (!b) e1 := x_bind h rfl
theorem x_andT {t u : M Bool} (h : t e = .ok b e1) (hb : b = true) (h2 : u e1 = .ok k e2) : mAnd t u e = .ok k e2 := x_bind h (by rw [if_pos hb]; exact h2)
theorem x_andF {t u : M Bool} (h : t e = .ok b e1) (hb : b = false) : mAnd t u e = .ok false e1 := x_bind h (by rw [hb]; rfl)
theorem x_orT {t u : M Bool} (h : t e = .ok b e1) (hb : b = true) : mOr t u e = .ok true e1 := x_bind h (by rw [hb]; rfl)
theorem x_orF {t u : M Bool} (h : t e = .ok b e1) (hb : b = false) (h2 : u e1 = .ok k e2) : mOr t u e = .ok k e2 := x_bind h (by rw [hb]; exact h2)
theorem x_ifT {α : Type} {t : M Bool} {a c : M α} {v : Ev α} (h : t e = .ok b e1) (hb : b = true) (h2 : a e1 = v) : mIf t a c e = v := x_bind h (by rw [if_pos hb]; exact h2)
theorem x_ifF {α : Type} {t : M Bool} {a c : M α} {v : Ev α} (h : t e = .ok b e1) (hb : b = false) (h2 : c e1 = v) : mIf t a c e = v := x_bind h (by rw [hb]; exact h2)
theorem x_met {f : List Dt → List Dt → Option (List Dt × Dt)} {ds0 : List Dt} (h0 : lstOf e[i]? = some ds0) (hs : ms e = .ok rs e1) (hz : frzs rs e1 = .ok es e2) (hl : lstOf e2[i]? = some ds) (hf : f ds es = some (ds', d)) : mMet f i ms e = .ok (.tmp (.val d)) (putL e2 i ds') := by
  unfold mMet
  rw [h0]
  exact x_bind hs (x_bind hz (by unfold mMet1; rw [hl]; simp only; rw [hf]))
theorem x_call {F : Fn} {io : Option Nat} {fa : Bool} {args : List Tv} {os : Option Ob} (hs : ms e = .ok rs e1) (hp : passL io fa 0 rs e1 = .ok rs' e2) (ha : argsOf io e2 0 rs' = some args) (hn : ((looked io 0 rs').all fun i => !decide (ioSlot io rs' = some i)) = true) (hF : F args = .ok t os)
    (hc : (looked io 0 rs' = [] ∨ (noMt t = true ∧ noMos os = true)) ∧ notIo t = true) (ho : putO e2 (ioSlot io rs') os = some e3) : mCall F io fa ms e = .ok (.tmp t) e3 := by
  refine x_bind hs (x_bind hp ?_)
  unfold appF
  rw [ha]
  simp only
  rw [if_pos hn, hF]
  simp only
  rw [if_pos hc, ho]
theorem x_callE {F : Fn} {io : Option Nat} {fa : Bool} {args : List Tv} {os : Option Ob} (hs : ms e = .ok rs e1) (hp : passL io fa 0 rs e1 = .ok rs' e2) (ha : argsOf io e2 0 rs' = some args) (hn : ((looked io 0 rs').all fun i => !decide (ioSlot io rs' = some i)) = true) (hF : F args = .er x os)
    (hc : looked io 0 rs' = [] ∨ noMos os = true) (ho : putO e2 (ioSlot io rs') os = some e3) : mCall F io fa ms e = .er x e3 := by
  refine x_bind hs (x_bind hp ?_)
  unfold appF
  rw [ha]
  simp only
  rw [if_pos hn, hF]
  simp only
  rw [if_pos hc, ho]
/-! ### statements -/
variable {a c : S} {v : Fl} {tt : M Bool}
theorem y_seq (ha : a e = .nx e1) (hb : c e1 = v) : S.seq a c e = v := by unfold S.seq; rw [ha]; exact hb
theorem y_seqR (ha : a e = .rt r e1) : S.seq a c e = .rt r e1 := by unfold S.seq; rw [ha]
theorem y_seqE (ha : a e = .er x e1) : S.seq a c e = .er x e1 := by unfold S.seq; rw [ha]
theorem y_run {α : Type} {m : M α} {k : α → S} {y : α} (h : m e = .ok y e1) (h2 : k y e1 = v) : S.run m k e = v := by unfold S.run; rw [h]; exact h2
theorem y_skip : S.skip e = .nx e := rfl
theorem y_set (h : m e = .ok r e1) (hs : sto i r e1 = some e2) : sSet i m e = .nx e2 := y_run h (by rw [hs])
theorem y_expr (h : m e = .ok r e1) : sExpr m e = .nx e1 := y_run h rfl
theorem y_ret (h : m e = .ok r e1) : sRet m e = .rt r e1 := y_run h rfl
theorem y_ifT (h : tt e = .ok b e1) (hb : b = true) (h2 : a e1 = v) : sIf tt a c e = v := y_run h (by rw [if_pos hb]; exact h2)
theorem y_ifF (h : tt e = .ok b e1) (hb : b = false) (h2 : c e1 = v) : sIf tt a c e = v := y_run h (by rw [hb]; exact h2)
theorem y_for {mi : M (List Dt)} {g : Tg} (h : mi e = .ok ds e1) (h2 : itF g c ds e1 = v) : sFor mi g c e = v := y_run h h2
theorem y_par2 (h : ms e = .ok [r, r1] e1) (ht : isTmp r = true) (h1 : sto j r1 e1 = some e2) (h2 : sto i r e2 = some e3) : sPar2 i j ms e = .nx e3 := y_run h (by simp only; rw [if_pos ht, h1]; simp only; rw [h2])
theorem y_par3 (h : ms e = .ok [r, r1, r2] e1) (ht : isTmp r = true ∧ isTmp r1 = true) (h0 : sto l r2 e1 = some e2) (h1 : sto j r1 e2 = some e3) (h2 : sto i r e3 = some e4) : sPar3 i j l ms e = .nx e4 := y_run h (by simp only; rw [if_pos ht, h0]; simp only; rw [h1]; simp only; rw [h2])
theorem y_unp {g : Tg} (h : m e = .ok r e1) (hz : fz e1 r = some (d, e2)) (hg : g d e2 = some e3) : sUnp g m e = .nx e3 := y_run (x_bind (e1 := e1) h (by show frz r e1 = _; unfold frz; rw [hz])) (by rw [hg])
theorem x_rng1 (h : ms e = .ok rs e1) (hv : vws e1 rs = some ds) (hf : rngOf1 ds = some ds') : iRng1 ms e = .ok ds' e1 := x_bind h (x_bind (x_of (o := vws e1 rs) hv) (x_of hf))
theorem x_rng2 (h : ms e = .ok rs e1) (hv : vws e1 rs = some ds) (hf : rngOf2 ds = some ds') : iRng2 ms e = .ok ds' e1 := x_bind h (x_bind (x_of (o := vws e1 rs) hv) (x_of hf))
theorem x_seq (h : m e = .ok r e1) (hz : fz e1 r = some (d, e2)) (hs : seqOf d = some ds) : iSeq m e = .ok ds e2 := x_bind h (x_bind (show frz r e1 = .ok d e2 by unfold frz; rw [hz]) (x_of hs))
theorem x_enum (h : m e = .ok r e1) (hz : fz e1 r = some (d, e2)) (hs : seqOf d = some ds) : iEnum1 m e = .ok (enumD 0 ds) e2 := x_bind h (x_bind (show frz r e1 = .ok d e2 by unfold frz; rw [hz]) (x_bind (x_of hs) rfl))
theorem x_still {mi : M (List Dt)} (h : mi e = .ok ds e1) : still mi e = .ok (ds, none) e1 := x_bind h rfl
theorem x_rgL1 (h : m e = .ok r e1) (hv : vw e1 r = some (.int n)) (hf : fRgL 0 n = some t) : mRgL1 m e = .ok (.tmp t) e1 := x_bind h (x_bind (x_look hv) (x_bind rfl (x_bind (x_of hf) rfl)))
theorem x_sl {f : Dt → Option Int → Option Int → Option Tv} {ml mh : M (Option Int)} {lo hi : Option Int} (h : m e = .ok r e1) (hl : ml e1 = .ok lo e2) (hh : mh e2 = .ok hi e3) (hv : vw e3 r = some d) (hf : f d lo hi = some t) : mSl f m ml mh e = .ok (.tmp t) e3 := x_bind h (x_bind hl (x_bind hh (x_bind (x_look hv) (x_bind (x_of hf) rfl))))
end
theorem fn_rt {m : S} {n np : Nat} {args : List Tv} {r : R} {e : En} {t : Tv} {os : Option Ob} (hl : args.length = np) (h : m (env0 n args) = .rt r e) (h1 : resOf e r = some t) (h2 : outOf args e = some os) : runF m n np args = .ok t os := by
  unfold runF
  rw [if_pos hl, h]
  simp only
  rw [h1, h2]
theorem fn_er {m : S} {n np : Nat} {args : List Tv} {x : Ex} {e : En} {os : Option Ob} (hl : args.length = np) (h : m (env0 n args) = .er x e) (h2 : outOf args e = some os) : runF m n np args = .er x os := by
  unfold runF
  rw [if_pos hl, h]
  simp only
  rw [h2]
theorem big_of {i : Int} (h0 : -1000000 ≤ i) (h1 : i ≤ 1000000) : big62 i = true := by
  have a : (1000000 : Int) < 2 ^ 62 := by decide
  unfold big62
  rw [Bool.and_eq_true]
  exact ⟨decide_eq_true (by omega), decide_eq_true (by omega)⟩
theorem big_nat {k : Nat} (h : k ≤ 1000000) : big62 (k : Int) = true := big_of (by omega) (by omega)
theorem f_rng1 {n : Int} (h : big62 n = true) : rngOf1 [.int n] = some (rgs 0 n.toNat) := if_pos h
theorem f_append {ds : List Dt} {d : Dt} (h : ds.length < 16777216) : fAppend ds [d] = some (ds ++ [d], .none) := if_pos h
theorem f_popAt {ds : List Dt} {i : Int} {k : Nat} {d : Dt} (hb : big62 i = true) (hk : seqIndex? i ds.length = some k) (hd : ds[k]? = some d) : fPopAt ds [.int i] = some (ds.eraseIdx k, d) := by
  show (if big62 i = true then _ else _) = _
  rw [if_pos hb, hk]
  simp only
  rw [hd]
  rfl
theorem f_ixL {ds : List Dt} {k : Nat} {d : Dt} (h : ds[k]? = some d) : fIx (.list ds) (.int k) = some (.val d) := by
  show (L2.atI ds (k : Int)).map _ = _
  rw [atI_nat h]
  rfl
theorem f_ixT {ds : List Dt} {k : Nat} {d : Dt} (h : ds[k]? = some d) : fIx (.tuple ds) (.int k) = some (.val d) := by
  show (L2.atI ds (k : Int)).map _ = _
  rw [atI_nat h]
  rfl
section
variable {e e1 e2 : En} {b k k2 : Bool}
theorem z_T {β : Type} {a c : En → β} {v : β} (h : a e = v) : (cond true a c) e = v := h
theorem z_F {β : Type} {a c : En → β} {v : β} (h : c e = v) : (cond false a c) e = v := h
theorem y_if {tt : M Bool} {a c : S} {v : Fl} (h : tt e = .ok b e1) (hk : b = k) (h2 : (cond k a c) e1 = v) : sIf tt a c e = v := by
  subst hk
  cases b
  · exact y_ifF h rfl h2
  · exact y_ifT h rfl h2
theorem x_if {α : Type} {t : M Bool} {a c : M α} {v : Ev α} (h : t e = .ok b e1) (hk : b = k) (h2 : (cond k a c) e1 = v) : mIf t a c e = v := by
  subst hk
  cases b
  · exact x_ifF h rfl h2
  · exact x_ifT h rfl h2
theorem x_and {t u : M Bool} (h : t e = .ok b e1) (hk : b = k) (h2 : (cond k u (M.ret false)) e1 = .ok k2 e2) : mAnd t u e = .ok k2 e2 := by
  subst hk
  cases b
  · have := x_andF (u := u) h rfl
    rw [this]
    exact h2
  · exact x_andT h rfl h2
theorem x_or {t u : M Bool} (h : t e = .ok b e1) (hk : b = k) (h2 : (cond k (M.ret true) u) e1 = .ok k2 e2) : mOr t u e = .ok k2 e2 := by
  subst hk
  cases b
  · exact x_orF h rfl h2
  · have := x_orT (u := u) h rfl
    rw [this]
    exact h2
theorem x_retB : (M.ret b : M Bool) e = .ok b e := rfl
end
theorem y_end {a : S} {e e1 e2 : En} (h : a e = .nx e1) (he : e1 = e2) : a e = .nx e2 := by rw [h, he]
theorem x_end {α : Type} {m : M α} {e e1 e2 : En} {a b : α} (h : m e = .ok a e1) (ha : a = b) (he : e1 = e2) : m e = .ok b e2 := by rw [h, ha, he]
end VL


namespace KD
open PySem PySem.Spec L2 VL
open PyProof.Rows hiding St
def topS (i : Nat) : Stmt := PySem.Challenge.pw_roomways_k67_whole_houses_with_a_gate.main.body.getD i (.Pass ⟨0, 0, 0, 0⟩)
abbrev bmV : List Value := [.type "ValueError", .type "Exception", .type "BaseException", .type "object"]
/-- what the module's top has left, as the defs need it -/
structure Tb (K : PySem.W.Frag) (mg : Str → Option Value) : Prop where
  b_len : mg "len" = none
  b_range : mg "range" = none
  b_abs : mg "abs" = none
  b_int : mg "int" = none
  b_list : mg "list" = none
  b_tuple : mg "tuple" = none
  b_enumerate : mg "enumerate" = none
  b_repr : mg "repr" = none
  c_MAX_ROOMS : ∃ t, mg ("MAX_ROOMS" : Str) = some (.int 6 t)
  c_MAX_STEPS : ∃ t, mg ("MAX_STEPS" : Str) = some (.int 24 t)
  e_Unfit : Exd K mg "Unfit"
section
variable {P : Program} {w : World} {K : PySem.W.Frag} {mg : Str → Option Value} {base : Heap}

abbrev sgated : Stmt := topS 9
abbrev Ngated : List Str := [("house" : Str), ("hands" : Str), ("rooms" : Str), ("ways" : Str), ("last" : Str), ("hand" : Str), ("found" : Str), ("way" : Str)]
theorem scgated : FnScope Ngated [("house" : Str), ("hands" : Str)] (defScope sgated) := ⟨rfl, rfl, rfl, by decide +kernel, rfl, by decide +kernel, by decide +kernel⟩
noncomputable def lgated_1 : M R :=
 mLc (still (iSeq (mVar 1))) (gN 5) (mTest (mOp2 fGt (mCallB fLen (mCons (mOp2 fIx (mVar 3) (mVar 5)) (M.ret []))) (mOp2 fSub (mDat (.int 24)) (mDat (.int 2))))) (mVar 5) [5]
noncomputable def bgated_2 : S :=
 sExpr (mMet fAppend 6 (mCons (mIf (mTest (mOp2 fIn (mVar 5) (mVar 1))) (mOp2 fAdd (mOp2 fAdd (mTup (mCons (mTup (mCons (mDat (.str ("in" : Str))) (mCons (mVar 4) (M.ret [])))) (M.ret []))) (mVar 7)) (mTup (mCons (mTup (mCons (mDat (.str ("out" : Str))) (mCons (mVar 4) (M.ret [])))) (M.ret [])))) (mVar 7)) (M.ret [])))
noncomputable def mgated : S :=
 S.seq (sUnp (gT 2 (gConsD (gN 2) (gConsD (gN 3) (gNilD)))) (mVar 0))
 (S.seq (sSet 4 (mCallB fLen (mCons (mVar 2) (M.ret []))))
 (S.seq (sIf (mOr (mTest (mOp2 fEq (mVar 4) (mDat (.int 6)))) (mTest (mOp2 fNe (lgated_1) (mLst (M.ret []))))) (sRaise ⟨("Unfit" : Str), none⟩) (S.skip))
 (S.seq (sSet 6 (mLst (M.ret [])))
 (S.seq (sFor (iEnum1 (mVar 3)) (gT 2 (gConsD (gN 5) (gConsD (gN 7) (gNilD)))) bgated_2)
 (sRet (mTup (mCons (mOp2 fAdd (mVar 2) (mTup (mCons (mDat (.none)) (M.ret [])))) (mCons (mCallB fTuple (mCons (mVar 6) (M.ret []))) (M.ret [])))))))))
noncomputable def fgated : Fn := runF mgated 8 2
theorem okgated {f : Addr} {fd : FuncData} (F : Fun K ("gated" : Str) ("gated" : Str) sgated f fd) (T : Tb K mg)  : FnOk P w K mg base (L2.CX P w) 1 f fd [("house" : Str), ("hands" : Str)] (FnSem K mg fgated) := by
  refine fn_ok F scgated fun cdv A outer s H E B hr => ?_
  have nd := scgated.nd
  have hu64 := hr.u64
  have hu65 := hr.u65
  have tk := takes_of (X := cxOf (L2.CX P w) P w K mg base Ngated ("gated" : Str) (defScope sgated) f cdv A outer s H E) rfl rfl rfl rfl
  have ps := passes_of (X := cxOf (L2.CX P w) P w K mg base Ngated ("gated" : Str) (defScope sgated) f cdv A outer s H E) rfl
  exact (vss_cons (vs_unp (ve_var 0) (vg_tup (n := 2) rfl (vgs_cons (vg_name (i := 2) nd rfl (.inl rfl)) (vgs_cons (vg_name (i := 3) nd rfl (.inr rfl)) (vgs_nil)))))
 (vss_cons (vs_set (i := 4) nd rfl (.inl rfl) (ve_callB call_len_seq fLen_ok rfl T.b_len PySem.boot_len (va_cons (ve_var 2) (va_nil))))
 (vss_cons (vs_if (VW.vt (vw_or (vt_cmp (op_eqD hu64) fEq_ok (ve_var 4) (ve_gint T.c_MAX_ROOMS) (nomark _)) (vw_or1 (vt_cmp (op_neD hu64) fNe_ok (ve_lc (own := [(("hand" : Str), 5)]) (sl := [5]) (g := gN 5) (t := mTest (mOp2 fGt (mCallB fLen (mCons (mOp2 fIx (mVar 3) (mVar 5)) (M.ret []))) (mOp2 fSub (mDat (.int 24)) (mDat (.int 2))))) (m := mVar 5) rfl nd (VI.c (vi_seq (ve_var 1))) (blkOk_by (N := Ngated) (sc := defScope sgated) (by decide +kernel)) (fun _ _ _ _ _ => vg_name (i := 5) nd rfl (.inl rfl)) (by decide) (fun _ _ _ _ _ => vts_one (vt_cmp op_gt fCmp_ok (ve_callB call_len_seq fLen_ok rfl T.b_len PySem.boot_len (va_cons (ve_ix ix_V fIx_ok (ve_var 3) (ve_var 5) (fun _ _ => rfl)) (va_nil))) (ve_op op_sub fSub_ok (ve_gint T.c_MAX_STEPS) (ve_int)) (nomark _))) (fun _ _ _ _ _ => ve_var 5)) (ve_lst (va_nil)) (nomark _))))) (vss_one (vs_raiseX rfl tk T.e_Unfit)) (vss_nil))
 (vss_cons (vs_set (i := 6) nd rfl (.inl rfl) (ve_lst (va_nil)))
 (vss_cons (vs_for ps rfl (vi_enum rfl T.b_enumerate (ve_var 3)) (vg_tup (n := 2) rfl (vgs_cons (vg_name (i := 5) nd rfl (.inl rfl)) (vgs_cons (vg_name (i := 7) nd rfl (.inl rfl)) (vgs_nil)))) (vss_one (vs_expr (ve_met 6 PySem.F.slot_list_append PySem.F.type_list_append mt_append append_ok rfl (by first | exact .inl rfl | exact .inr (.inl rfl) | exact .inr (.inr rfl)) (va_cons (ve_ifExp (vt_cmp (op_inV hu65) fIn_ok (ve_var 5) (ve_var 1) (by with_unfolding_all rfl)) (ve_op op_addV fAdd_ok (ve_op op_addV fAdd_ok (ve_tup (va_cons (ve_tup (va_cons (ve_str) (va_cons (ve_var 4) (va_nil)))) (va_nil))) (ve_var 7)) (ve_tup (va_cons (ve_tup (va_cons (ve_str) (va_cons (ve_var 4) (va_nil)))) (va_nil)))) (ve_var 7)) (va_nil))))))
 (vss_one (vs_ret (ve_tup (va_cons (ve_op op_addV fAdd_ok (ve_var 2) (ve_tup (va_cons (ve_non) (va_nil)))) (va_cons (ve_callTy call_tuple_of fTuple_ok rfl T.b_tuple boot_tuple (va_cons (ve_var 6) (va_nil))) (va_nil)))))))))))
abbrev s_law_pot : Stmt := topS 11
abbrev N_law_pot : List Str := [("script" : Str), ("cell" : Str), ("cells" : Str), ("mixed" : Str)]
theorem sc_law_pot : FnScope N_law_pot [("script" : Str)] (defScope s_law_pot) := ⟨rfl, rfl, rfl, by decide +kernel, rfl, by decide +kernel, by decide +kernel⟩
noncomputable def l_law_pot_1 : M R :=
 mLc (still (iSeq (mScr 0 63))) (gN 1) (M.ret true) (mOp2 fAdd (mOp2 fMul (mDat (.int 2)) (mCallB fAbs (mCons (mVar 1) (M.ret [])))) (mCallB fInt (mCons (mOp2 fLt (mVar 1) (mDat (.int 0))) (M.ret [])))) [1]
noncomputable def b_law_pot_2 : S :=
 sSet 3 (mOp2 fMod (mOp2 fAdd (mOp2 fAdd (mOp2 fMul (mVar 3) (mDat (.int 69069))) (mVar 1)) (mDat (.int 11))) (mDat (.int 4294967291)))
noncomputable def l_law_pot_3 : M R :=
 mLc (still (iSeq (mVar 2))) (gN 1) (mTest (mOp2 fGt (mVar 1) (mOp2 fPow (mDat (.int 10)) (mDat (.int 12))))) (mVar 1) [1]
noncomputable def m_law_pot : S :=
 S.seq (sPar2 2 3 (mCons (l_law_pot_1) (mCons (mOp2 fAdd (mDat (.int 15910)) (mOp2 fMul (mDat (.int 37)) (mScrLen 0))) (M.ret []))))
 (S.seq (sFor (iSeq (mVar 2)) (gN 1) b_law_pot_2)
 (sRet (mPotNew (mCons (l_law_pot_3) (mCons (mVar 3) (mCons (mDat (.int 0)) (M.ret [])))))))
noncomputable def f_law_pot : Fn := runF m_law_pot 4 1
theorem ok_law_pot {f : Addr} {fd : FuncData} (F : Fun K ("_law_pot" : Str) ("_law_pot" : Str) s_law_pot f fd) (T : Tb K mg)  : FnOk P w K mg base (L2.CX P w) 1 f fd [("script" : Str)] (FnSem K mg f_law_pot) := by
  refine fn_ok F sc_law_pot fun cdv A outer s H E B hr => ?_
  have nd := sc_law_pot.nd
  have hu64 := hr.u64
  have hu65 := hr.u65
  have tk := takes_of (X := cxOf (L2.CX P w) P w K mg base N_law_pot ("_law_pot" : Str) (defScope s_law_pot) f cdv A outer s H E) rfl rfl rfl rfl
  have ps := passes_of (X := cxOf (L2.CX P w) P w K mg base N_law_pot ("_law_pot" : Str) (defScope s_law_pot) f cdv A outer s H E) rfl
  exact (vss_cons (vs_par2 (i := 2) (j := 3) rfl nd rfl rfl (by decide) rfl rfl (va_cons (ve_lc (own := [(("cell" : Str), 1)]) (sl := [1]) (g := gN 1) (t := M.ret true) (m := mOp2 fAdd (mOp2 fMul (mDat (.int 2)) (mCallB fAbs (mCons (mVar 1) (M.ret [])))) (mCallB fInt (mCons (mOp2 fLt (mVar 1) (mDat (.int 0))) (M.ret [])))) rfl nd (VI.c (vi_seq (ve_scr (i := 0) rfl (by first | exact .inl rfl | exact .inr (.inl rfl) | exact .inr (.inr rfl))))) (blkOk_by (N := N_law_pot) (sc := defScope s_law_pot) (by decide +kernel)) (fun _ _ _ _ _ => vg_name (i := 1) nd rfl (.inl rfl)) (by decide) (fun _ _ _ _ _ => vts_nil) (fun _ _ _ _ _ => ve_op op_addV fAdd_ok (ve_op op_mulV fMul_ok (ve_int) (ve_callB call_abs fAbs_ok rfl T.b_abs PyProof.Rows.boot_abs (va_cons (ve_var 1) (va_nil)))) (ve_callTy call_int1 fInt_ok rfl T.b_int PyProof.Rows.boot_int (va_cons (ve_cmp op_lt fCmp_ok (ve_var 1) (ve_int) (nomark _)) (va_nil))))) (va_cons (ve_op op_addV fAdd_ok (ve_int) (ve_op op_mulV fMul_ok (ve_int) (ve_scrLen (i := 0) rfl (by first | exact .inl rfl | exact .inr (.inl rfl) | exact .inr (.inr rfl)) rfl T.b_len PySem.boot_len))) (va_nil))) (by with_unfolding_all rfl))
 (vss_cons (vs_for ps rfl (vi_seq (ve_var 2)) (vg_name (i := 1) nd rfl (.inl rfl)) (vss_one (vs_set (i := 3) nd rfl (.inl rfl) (ve_op op_mod fMod_ok (ve_op op_addV fAdd_ok (ve_op op_addV fAdd_ok (ve_op op_mulV fMul_ok (ve_var 3) (ve_int)) (ve_var 1)) (ve_int)) (ve_int)))))
 (vss_one (vs_ret (ve_potNew (va_cons (ve_lc (own := [(("cell" : Str), 1)]) (sl := [1]) (g := gN 1) (t := mTest (mOp2 fGt (mVar 1) (mOp2 fPow (mDat (.int 10)) (mDat (.int 12))))) (m := mVar 1) rfl nd (VI.c (vi_seq (ve_var 2))) (blkOk_by (N := N_law_pot) (sc := defScope s_law_pot) (by decide +kernel)) (fun _ _ _ _ _ => vg_name (i := 1) nd rfl (.inl rfl)) (by decide) (fun _ _ _ _ _ => vts_one (vt_cmp op_gt fCmp_ok (ve_var 1) (ve_op op_pow fPow_ok (ve_int) (ve_int)) (nomark _))) (fun _ _ _ _ _ => ve_var 1)) (va_cons (ve_var 3) (va_cons (ve_int) (va_nil)))))))))
abbrev s_law_of : Stmt := topS 12
abbrev N_law_of : List Str := [("pot" : Str), ("many" : Str), ("cell" : Str), ("number" : Str)]
theorem sc_law_of : FnScope N_law_of [("pot" : Str), ("many" : Str)] (defScope s_law_of) := ⟨rfl, rfl, rfl, by decide +kernel, rfl, by decide +kernel, by decide +kernel⟩
noncomputable def m_law_of : S :=
 S.seq (sIf (mTest (mOp2 fLt (mVar 1) (mDat (.int 2)))) (sRet (mDat (.int 0))) (S.skip))
 (S.seq (sIf (mPotNe 0) (S.seq (sSet 2 (mPotPop 0))
 (S.seq (sIf (mTest (mOp2 fGe (mVar 2) (mVar 1))) (sExpr (mPotApp 0 2 1)) (S.skip))
 (sRet (mOp2 fMod (mVar 2) (mVar 1))))) (S.skip))
 (S.seq (sPotSet 0 (mOp2 fAdd (mPotI 0 2) (mDat (.int 1))))
 (S.seq (sSet 3 (mOp2 fMod (mOp2 fAdd (mPotI 0 1) (mOp2 fMul (mPotI 0 2) (mDat (.int 2654435761)))) (mDat (.int 4294967279))))
 (S.seq (sSet 3 (mOp2 fMod (mOp2 fAdd (mOp2 fAdd (mOp2 fMul (mVar 3) (mVar 3)) (mOp2 fMul (mPotI 0 2) (mDat (.int 40503)))) (mDat (.int 5))) (mDat (.int 4294967231))))
 (S.seq (sSet 3 (mOp2 fMod (mOp2 fAdd (mOp2 fMul (mVar 3) (mVar 3)) (mPotI 0 1)) (mDat (.int 4294967291))))
 (sRet (mOp2 fMod (mOp2 fDiv (mVar 3) (mDat (.int 256))) (mVar 1))))))))
noncomputable def f_law_of : Fn := runF m_law_of 4 2
theorem ok_law_of {f : Addr} {fd : FuncData} (F : Fun K ("_law_of" : Str) ("_law_of" : Str) s_law_of f fd) (T : Tb K mg)  : FnOk P w K mg base (L2.CX P w) 1 f fd [("pot" : Str), ("many" : Str)] (FnSem K mg f_law_of) := by
  refine fn_ok F sc_law_of fun cdv A outer s H E B hr => ?_
  have nd := sc_law_of.nd
  have hu64 := hr.u64
  have hu65 := hr.u65
  have tk := takes_of (X := cxOf (L2.CX P w) P w K mg base N_law_of ("_law_of" : Str) (defScope s_law_of) f cdv A outer s H E) rfl rfl rfl rfl
  have ps := passes_of (X := cxOf (L2.CX P w) P w K mg base N_law_of ("_law_of" : Str) (defScope s_law_of) f cdv A outer s H E) rfl
  exact (vss_cons (vs_if (vt_cmp op_lt fCmp_ok (ve_var 1) (ve_int) (nomark _)) (vss_one (vs_ret (ve_int))) (vss_nil))
 (vss_cons (vs_if (vt_potNe (i := 0) hu64 rfl (by first | exact .inl rfl | exact .inr (.inl rfl) | exact .inr (.inr rfl))) (vss_cons (vs_set (i := 2) nd rfl (.inl rfl) (ve_potPop (i := 0) rfl (by first | exact .inl rfl | exact .inr (.inl rfl) | exact .inr (.inr rfl))))
 (vss_cons (vs_if (vt_cmp op_ge fCmp_ok (ve_var 2) (ve_var 1) (nomark _)) (vss_one (vs_expr (ve_potApp (i := 0) (u := 2) (v := 1) rfl (by first | exact .inl rfl | exact .inr (.inl rfl) | exact .inr (.inr rfl)) rfl (by first | exact .inl rfl | exact .inr (.inl rfl) | exact .inr (.inr rfl)) rfl (by first | exact .inl rfl | exact .inr (.inl rfl) | exact .inr (.inr rfl))))) (vss_nil))
 (vss_one (vs_ret (ve_op op_mod fMod_ok (ve_var 2) (ve_var 1)))))) (vss_nil))
 (vss_cons (vs_potSet (i := 0) rfl (by first | exact .inl rfl | exact .inr (.inl rfl) | exact .inr (.inr rfl)) (ve_op op_addV fAdd_ok (ve_potI (i := 0) rfl (by first | exact .inl rfl | exact .inr (.inl rfl) | exact .inr (.inr rfl))) (ve_int)))
 (vss_cons (vs_set (i := 3) nd rfl (.inl rfl) (ve_op op_mod fMod_ok (ve_op op_addV fAdd_ok (ve_potI (i := 0) rfl (by first | exact .inl rfl | exact .inr (.inl rfl) | exact .inr (.inr rfl))) (ve_op op_mulV fMul_ok (ve_potI (i := 0) rfl (by first | exact .inl rfl | exact .inr (.inl rfl) | exact .inr (.inr rfl))) (ve_int))) (ve_int)))
 (vss_cons (vs_set (i := 3) nd rfl (.inl rfl) (ve_op op_mod fMod_ok (ve_op op_addV fAdd_ok (ve_op op_addV fAdd_ok (ve_op op_mulV fMul_ok (ve_var 3) (ve_var 3)) (ve_op op_mulV fMul_ok (ve_potI (i := 0) rfl (by first | exact .inl rfl | exact .inr (.inl rfl) | exact .inr (.inr rfl))) (ve_int))) (ve_int)) (ve_int)))
 (vss_cons (vs_set (i := 3) nd rfl (.inl rfl) (ve_op op_mod fMod_ok (ve_op op_addV fAdd_ok (ve_op op_mulV fMul_ok (ve_var 3) (ve_var 3)) (ve_potI (i := 0) rfl (by first | exact .inl rfl | exact .inr (.inl rfl) | exact .inr (.inr rfl)))) (ve_int)))
 (vss_one (vs_ret (ve_op op_mod fMod_ok (ve_op op_fdiv fDiv_ok (ve_var 3) (ve_int)) (ve_var 1))))))))))
abbrev s_law_one : Stmt := topS 13
abbrev N_law_one : List Str := [("pot" : Str), ("items" : Str)]
theorem sc_law_one : FnScope N_law_one [("pot" : Str), ("items" : Str)] (defScope s_law_one) := ⟨rfl, rfl, rfl, by decide +kernel, rfl, by decide +kernel, by decide +kernel⟩
noncomputable def m_law_one : S :=
 sRet (mOp2 fIx (mVar 1) (mCall f_law_of (some 0) true (mCons (mVar 0) (mCons (mCallB fLen (mCons (mVar 1) (M.ret []))) (M.ret [])))))
noncomputable def f_law_one : Fn := runF m_law_one 2 2
theorem ok_law_one {f : Addr} {fd : FuncData} (F : Fun K ("_law_one" : Str) ("_law_one" : Str) s_law_one f fd) (T : Tb K mg) (c_law_of : Cal P w K mg base 1 ("_law_of" : Str) [("pot" : Str), ("many" : Str)] f_law_of) : FnOk P w K mg base (L2.CX P w) 2 f fd [("pot" : Str), ("items" : Str)] (FnSem K mg f_law_one) := by
  refine fn_ok F sc_law_one fun cdv A outer s H E B hr => ?_
  have nd := sc_law_one.nd
  have hu64 := hr.u64
  have hu65 := hr.u65
  have tk := takes_of (X := cxOf (L2.CX P w) P w K mg base N_law_one ("_law_one" : Str) (defScope s_law_one) f cdv A outer s H E) rfl rfl rfl rfl
  have ps := passes_of (X := cxOf (L2.CX P w) P w K mg base N_law_one ("_law_one" : Str) (defScope s_law_one) f cdv A outer s H E) rfl
  exact (vss_one (vs_ret (ve_ix ix_V fIx_ok (ve_var 1) (ve_callC (some 0) true c_law_of hr tk (va_cons (ve_var 0) (va_cons (ve_callB call_len_seq fLen_ok rfl T.b_len PySem.boot_len (va_cons (ve_var 1) (va_nil))) (va_nil)))) (fun _ _ => rfl))))
abbrev s_law_mixed : Stmt := topS 14
abbrev N_law_mixed : List Str := [("pot" : Str), ("items" : Str), ("left" : Str), ("found" : Str)]
theorem sc_law_mixed : FnScope N_law_mixed [("pot" : Str), ("items" : Str)] (defScope s_law_mixed) := ⟨rfl, rfl, rfl, by decide +kernel, rfl, by decide +kernel, by decide +kernel⟩
noncomputable def t_law_mixed_1 : M Bool :=
 mTest (mOp2 fNe (mVar 2) (mLst (M.ret [])))
noncomputable def b_law_mixed_2 : S :=
 sExpr (mMet fAppend 3 (mCons (mMet fPopAt 2 (mCons (mCall f_law_of (some 0) true (mCons (mVar 0) (mCons (mCallB fLen (mCons (mVar 2) (M.ret []))) (M.ret [])))) (M.ret []))) (M.ret [])))
noncomputable def m_law_mixed : S :=
 S.seq (sPar2 2 3 (mCons (mCallB fList (mCons (mVar 1) (M.ret []))) (mCons (mLst (M.ret [])) (M.ret []))))
 (S.seq (sWhile t_law_mixed_1 b_law_mixed_2)
 (sRet (mVar 3)))
noncomputable def f_law_mixed : Fn := runF m_law_mixed 4 2
theorem ok_law_mixed {f : Addr} {fd : FuncData} (F : Fun K ("_law_mixed" : Str) ("_law_mixed" : Str) s_law_mixed f fd) (T : Tb K mg) (c_law_of : Cal P w K mg base 1 ("_law_of" : Str) [("pot" : Str), ("many" : Str)] f_law_of) : FnOk P w K mg base (L2.CX P w) 2 f fd [("pot" : Str), ("items" : Str)] (FnSem K mg f_law_mixed) := by
  refine fn_ok F sc_law_mixed fun cdv A outer s H E B hr => ?_
  have nd := sc_law_mixed.nd
  have hu64 := hr.u64
  have hu65 := hr.u65
  have tk := takes_of (X := cxOf (L2.CX P w) P w K mg base N_law_mixed ("_law_mixed" : Str) (defScope s_law_mixed) f cdv A outer s H E) rfl rfl rfl rfl
  have ps := passes_of (X := cxOf (L2.CX P w) P w K mg base N_law_mixed ("_law_mixed" : Str) (defScope s_law_mixed) f cdv A outer s H E) rfl
  exact (vss_cons (vs_par2 (i := 2) (j := 3) rfl nd rfl rfl (by decide) rfl rfl (va_cons (ve_callTy call_list_of fList_ok rfl T.b_list boot_list (va_cons (ve_var 1) (va_nil))) (va_cons (ve_lst (va_nil)) (va_nil))) (by with_unfolding_all rfl))
 (vss_cons (vs_while ps (vt_cmp (op_neD hu64) fNe_ok (ve_var 2) (ve_lst (va_nil)) (nomark _)) (vss_one (vs_expr (ve_met 3 PySem.F.slot_list_append PySem.F.type_list_append mt_append append_ok rfl (by first | exact .inl rfl | exact .inr (.inl rfl) | exact .inr (.inr rfl)) (va_cons (ve_met 2 PySem.F.slot_list_pop PySem.F.type_list_pop mt_popAt popAt_ok rfl (by first | exact .inl rfl | exact .inr (.inl rfl) | exact .inr (.inr rfl)) (va_cons (ve_callC (some 0) true c_law_of hr tk (va_cons (ve_var 0) (va_cons (ve_callB call_len_seq fLen_ok rfl T.b_len PySem.boot_len (va_cons (ve_var 2) (va_nil))) (va_nil)))) (va_nil))) (va_nil))))))
 (vss_one (vs_ret (ve_var 3)))))
abbrev s_law_way : Stmt := topS 15
abbrev N_law_way : List Str := [("pot" : Str), ("rooms" : Str), ("steps" : Str), ("is_rising" : Str), ("found" : Str), ("kept" : Str), ("free" : Str), ("room" : Str)]
theorem sc_law_way : FnScope N_law_way [("pot" : Str), ("rooms" : Str), ("steps" : Str), ("is_rising" : Str)] (defScope s_law_way) := ⟨rfl, rfl, rfl, by decide +kernel, rfl, by decide +kernel, by decide +kernel⟩
noncomputable def l_law_way_1 : M R :=
 mLc (still (iSeq (mVar 1))) (gN 7) (mAnd (mTest (mOp2 fNotIn (mVar 7) (mVar 5))) (mNot (mAnd (mTest (mVar 3)) (mAnd (mTest (mOp2 fNe (mVar 5) (mLst (M.ret [])))) (mTest (mOp2 fLt (mVar 7) (mOp2 fIx (mVar 5) (mOp1 fNeg (mDat (.int 1)))))))))) (mVar 7) [7]
noncomputable def t_law_way_2 : M Bool :=
 mTest (mOp2 fLt (mOp2 fAdd (mCallB fLen (mCons (mVar 4) (M.ret []))) (mCallB fLen (mCons (mVar 5) (M.ret [])))) (mVar 2))
noncomputable def b_law_way_3 : S :=
 S.seq (sSet 6 (l_law_way_1))
 (sIf (mOr (mTest (mOp2 fEq (mVar 5) (mLst (M.ret [])))) (mAnd (mTest (mOp2 fNe (mVar 6) (mLst (M.ret [])))) (mTest (mOp2 fLt (mCall f_law_of (some 0) true (mCons (mVar 0) (mCons (mDat (.int 5)) (M.ret [])))) (mDat (.int 3)))))) (S.seq (sExpr (mMet fAppend 5 (mCons (mCall f_law_one (some 0) true (mCons (mVar 0) (mCons (mVar 6) (M.ret [])))) (M.ret []))))
 (sExpr (mMet fAppend 4 (mCons (mTup (mCons (mDat (.str ("in" : Str))) (mCons (mOp2 fIx (mVar 5) (mOp1 fNeg (mDat (.int 1)))) (M.ret [])))) (M.ret []))))) (sExpr (mMet fAppend 4 (mCons (mTup (mCons (mDat (.str ("out" : Str))) (mCons (mMet fPop 5 (M.ret [])) (M.ret [])))) (M.ret [])))))
noncomputable def t_law_way_4 : M Bool :=
 mTest (mOp2 fNe (mVar 5) (mLst (M.ret [])))
noncomputable def b_law_way_5 : S :=
 sExpr (mMet fAppend 4 (mCons (mTup (mCons (mDat (.str ("out" : Str))) (mCons (mMet fPop 5 (M.ret [])) (M.ret [])))) (M.ret [])))
noncomputable def m_law_way : S :=
 S.seq (sPar2 4 5 (mCons (mLst (M.ret [])) (mCons (mLst (M.ret [])) (M.ret []))))
 (S.seq (sWhile t_law_way_2 b_law_way_3)
 (S.seq (sWhile t_law_way_4 b_law_way_5)
 (sRet (mCallB fTuple (mCons (mVar 4) (M.ret []))))))
noncomputable def f_law_way : Fn := runF m_law_way 8 4
theorem ok_law_way {f : Addr} {fd : FuncData} (F : Fun K ("_law_way" : Str) ("_law_way" : Str) s_law_way f fd) (T : Tb K mg) (c_law_of : Cal P w K mg base 1 ("_law_of" : Str) [("pot" : Str), ("many" : Str)] f_law_of) (c_law_one : Cal P w K mg base 2 ("_law_one" : Str) [("pot" : Str), ("items" : Str)] f_law_one) : FnOk P w K mg base (L2.CX P w) 3 f fd [("pot" : Str), ("rooms" : Str), ("steps" : Str), ("is_rising" : Str)] (FnSem K mg f_law_way) := by
  refine fn_ok F sc_law_way fun cdv A outer s H E B hr => ?_
  have nd := sc_law_way.nd
  have hu64 := hr.u64
  have hu65 := hr.u65
  have tk := takes_of (X := cxOf (L2.CX P w) P w K mg base N_law_way ("_law_way" : Str) (defScope s_law_way) f cdv A outer s H E) rfl rfl rfl rfl
  have ps := passes_of (X := cxOf (L2.CX P w) P w K mg base N_law_way ("_law_way" : Str) (defScope s_law_way) f cdv A outer s H E) rfl
  exact (vss_cons (vs_parT2 (i := 4) (j := 5) rfl nd rfl rfl (by decide) (.inl rfl) (.inr rfl) (va_cons (ve_lst (va_nil)) (va_cons (ve_lst (va_nil)) (va_nil))) (by rfl) (by with_unfolding_all rfl))
 (vss_cons (vs_while ps (vt_cmp op_lt fCmp_ok (ve_op op_addV fAdd_ok (ve_callB call_len_seq fLen_ok rfl T.b_len PySem.boot_len (va_cons (ve_var 4) (va_nil))) (ve_callB call_len_seq fLen_ok rfl T.b_len PySem.boot_len (va_cons (ve_var 5) (va_nil)))) (ve_var 2) (nomark _)) (vss_cons (vs_setLc (i := 6) (own := [(("room" : Str), 7)]) (sl := [7]) (g := gN 7) (t := mAnd (mTest (mOp2 fNotIn (mVar 7) (mVar 5))) (mNot (mAnd (mTest (mVar 3)) (mAnd (mTest (mOp2 fNe (mVar 5) (mLst (M.ret [])))) (mTest (mOp2 fLt (mVar 7) (mOp2 fIx (mVar 5) (mOp1 fNeg (mDat (.int 1)))))))))) (m := mVar 7) rfl nd rfl rfl (sw_true rfl rfl rfl (by decide +kernel)) (VI.c (vi_seq (ve_var 1))) (blkOk_by (N := N_law_way) (sc := defScope s_law_way) (by decide +kernel)) (fun _ _ _ _ _ => vg_name (i := 7) nd rfl (.inl rfl)) (by decide) (fun _ _ _ _ _ => vts_one (VW.vt (vw_and (vt_cmp (op_notInV hu65) fNotIn_ok (ve_var 7) (ve_var 5) (by with_unfolding_all rfl)) (vw_and1 (vt_not (VW.vt (vw_and (vt_val (ve_var 3)) (vw_and (vt_cmp (op_neD hu64) fNe_ok (ve_var 5) (ve_lst (va_nil)) (nomark _)) (vw_and1 (vt_cmp op_lt fCmp_ok (ve_var 7) (ve_ix ix_V fIx_ok (ve_var 5) (ve_un un_neg fNeg_ok ve_int) (fun _ _ => rfl)) (nomark _))))))))))) (fun _ _ _ _ _ => ve_var 7))
 (vss_one (vs_if (VW.vt (vw_or (vt_cmp (op_eqD hu64) fEq_ok (ve_var 5) (ve_lst (va_nil)) (nomark _)) (vw_or1 (VW.vt (vw_and (vt_cmp (op_neD hu64) fNe_ok (ve_var 6) (ve_lst (va_nil)) (nomark _)) (vw_and1 (vt_cmp op_lt fCmp_ok (ve_callC (some 0) true c_law_of hr tk (va_cons (ve_var 0) (va_cons (ve_int) (va_nil)))) (ve_int) (nomark _)))))))) (vss_cons (vs_expr (ve_met 5 PySem.F.slot_list_append PySem.F.type_list_append mt_append append_ok rfl (by first | exact .inl rfl | exact .inr (.inl rfl) | exact .inr (.inr rfl)) (va_cons (ve_callC (some 0) true c_law_one hr tk (va_cons (ve_var 0) (va_cons (ve_var 6) (va_nil)))) (va_nil))))
 (vss_one (vs_expr (ve_met 4 PySem.F.slot_list_append PySem.F.type_list_append mt_append append_ok rfl (by first | exact .inl rfl | exact .inr (.inl rfl) | exact .inr (.inr rfl)) (va_cons (ve_tup (va_cons (ve_str) (va_cons (ve_ix ix_V fIx_ok (ve_var 5) (ve_un un_neg fNeg_ok ve_int) (fun _ _ => rfl)) (va_nil)))) (va_nil)))))) (vss_one (vs_expr (ve_met 4 PySem.F.slot_list_append PySem.F.type_list_append mt_append append_ok rfl (by first | exact .inl rfl | exact .inr (.inl rfl) | exact .inr (.inr rfl)) (va_cons (ve_tup (va_cons (ve_str) (va_cons (ve_met0 5 PySem.F.slot_list_pop PySem.F.type_list_pop mt_pop pop_ok rfl (by first | exact .inl rfl | exact .inr (.inl rfl) | exact .inr (.inr rfl))) (va_nil)))) (va_nil)))))))))
 (vss_cons (vs_while ps (vt_cmp (op_neD hu64) fNe_ok (ve_var 5) (ve_lst (va_nil)) (nomark _)) (vss_one (vs_expr (ve_met 4 PySem.F.slot_list_append PySem.F.type_list_append mt_append append_ok rfl (by first | exact .inl rfl | exact .inr (.inl rfl) | exact .inr (.inr rfl)) (va_cons (ve_tup (va_cons (ve_str) (va_cons (ve_met0 5 PySem.F.slot_list_pop PySem.F.type_list_pop mt_pop pop_ok rfl (by first | exact .inl rfl | exact .inr (.inl rfl) | exact .inr (.inr rfl))) (va_nil)))) (va_nil))))))
 (vss_one (vs_ret (ve_callTy call_tuple_of fTuple_ok rfl T.b_tuple boot_tuple (va_cons (ve_var 4) (va_nil))))))))
abbrev s_law_door : Stmt := topS 16
abbrev N_law_door : List Str := [("pot" : Str), ("many" : Str), ("is_tame" : Str), ("i" : Str), ("rank" : Str), ("table" : Str), ("orders" : Str), ("some" : Str), ("j" : Str), ("words" : Str), ("row" : Str)]
theorem sc_law_door : FnScope N_law_door [("pot" : Str), ("many" : Str), ("is_tame" : Str)] (defScope s_law_door) := ⟨rfl, rfl, rfl, by decide +kernel, rfl, by decide +kernel, by decide +kernel⟩
noncomputable def l_law_door_1 : M R :=
 mLcG (still (iRng1 (mCons (mVar 1) (M.ret [])))) (gN 3) (M.ret true) (mOp2 fMul (mLst (mCons (mDat (.str ("-" : Str))) (M.ret []))) (mVar 1)) [3]
noncomputable def b_law_door_2 : S :=
 S.seq (sSet 9 (mIf (mTest (mOp2 fLt (mOp2 fIx (mVar 4) (mVar 3)) (mOp2 fIx (mVar 4) (mVar 8)))) (mOp2 fIx (mVar 7) (mDat (.int 1))) (mOp2 fIx (mVar 7) (mDat (.int 2)))))
 (S.seq (sIf (mAnd (mTest (mVar 2)) (mTest (mOp2 fEq (mCall f_law_of (some 0) true (mCons (mVar 0) (mCons (mDat (.int 5)) (M.ret [])))) (mDat (.int 0))))) (sSet 9 (mOp2 fIx (mVar 7) (mDat (.int 0)))) (S.skip))
 (S.seq (sIf (mNot (mTest (mVar 2))) (sSet 9 (mCall f_law_one (some 0) true (mCons (mVar 0) (mCons (mVar 7) (M.ret []))))) (S.skip))
 (sUnp (gT 2 (gConsD (gGrid 5 3 8) (gConsD (gGrid 5 8 3) (gNilD)))) (mVar 9))))
noncomputable def b_law_door_3 : S :=
 sFor (iRng1 (mCons (mVar 3) (M.ret []))) (gN 8) b_law_door_2
noncomputable def l_law_door_4 : M R :=
 mLc (still (iRng1 (mCons (mVar 1) (M.ret [])))) (gN 8) (mTest (mOp2 fNe (mVar 8) (mVar 3))) (mVar 8) [8]
noncomputable def b_law_door_5 : S :=
 sExpr (mMet fAppend 6 (mCons (mCallB fTuple (mCons (mCall f_law_mixed (some 0) true (mCons (mVar 0) (mCons (l_law_door_4) (M.ret [])))) (M.ret []))) (M.ret [])))
noncomputable def l_law_door_6 : M R :=
 mLc (still (iSeq (mVar 5))) (gN 10) (M.ret true) (mCallB fTuple (mCons (mVar 10) (M.ret []))) [10]
noncomputable def m_law_door : S :=
 S.seq (sPar3 4 5 6 (mCons (mCall f_law_mixed (some 0) true (mCons (mVar 0) (mCons (mRgL1 (mVar 1)) (M.ret [])))) (mCons (l_law_door_1) (mCons (mLst (M.ret [])) (M.ret [])))))
 (S.seq (sSet 7 (mLst (mCons (mTup (mCons (mDat (.str ("even" : Str))) (mCons (mDat (.str ("even" : Str))) (M.ret [])))) (mCons (mTup (mCons (mDat (.str ("stand" : Str))) (mCons (mDat (.str ("bow" : Str))) (M.ret [])))) (mCons (mTup (mCons (mDat (.str ("bow" : Str))) (mCons (mDat (.str ("stand" : Str))) (M.ret [])))) (mCons (mTup (mCons (mDat (.str ("bow" : Str))) (mCons (mDat (.str ("bow" : Str))) (M.ret [])))) (mCons (mTup (mCons (mDat (.str ("stand" : Str))) (mCons (mDat (.str ("stand" : Str))) (M.ret [])))) (M.ret []))))))))
 (S.seq (sFor (iRng1 (mCons (mVar 1) (M.ret []))) (gN 3) b_law_door_3)
 (S.seq (sFor (iRng1 (mCons (mVar 1) (M.ret []))) (gN 3) b_law_door_5)
 (sRet (mTup (mCons (mCallB fTuple (mCons (l_law_door_6) (M.ret []))) (mCons (mCallB fTuple (mCons (mVar 6) (M.ret []))) (M.ret []))))))))
noncomputable def f_law_door : Fn := runF m_law_door 11 3
theorem ok_law_door {f : Addr} {fd : FuncData} (F : Fun K ("_law_door" : Str) ("_law_door" : Str) s_law_door f fd) (T : Tb K mg) (c_law_mixed : Cal P w K mg base 2 ("_law_mixed" : Str) [("pot" : Str), ("items" : Str)] f_law_mixed) (c_law_of : Cal P w K mg base 1 ("_law_of" : Str) [("pot" : Str), ("many" : Str)] f_law_of) (c_law_one : Cal P w K mg base 2 ("_law_one" : Str) [("pot" : Str), ("items" : Str)] f_law_one) : FnOk P w K mg base (L2.CX P w) 3 f fd [("pot" : Str), ("many" : Str), ("is_tame" : Str)] (FnSem K mg f_law_door) := by
  refine fn_ok F sc_law_door fun cdv A outer s H E B hr => ?_
  have nd := sc_law_door.nd
  have hu64 := hr.u64
  have hu65 := hr.u65
  have tk := takes_of (X := cxOf (L2.CX P w) P w K mg base N_law_door ("_law_door" : Str) (defScope s_law_door) f cdv A outer s H E) rfl rfl rfl rfl
  have ps := passes_of (X := cxOf (L2.CX P w) P w K mg base N_law_door ("_law_door" : Str) (defScope s_law_door) f cdv A outer s H E) rfl
  exact (vss_cons (vs_par3 (i := 4) (j := 5) (l := 6) rfl nd rfl rfl rfl (by decide) (by decide) (by decide) rfl rfl rfl (va_cons (ve_callC (some 0) true c_law_mixed hr tk (va_cons (ve_var 0) (va_cons (ve_rgL1 rfl T.b_list T.b_range (ve_var 1)) (va_nil)))) (va_cons (ve_lcG (own := [(("i" : Str), 3)]) (sl := [3]) (g := gN 3) (t := M.ret true) (m := mOp2 fMul (mLst (mCons (mDat (.str ("-" : Str))) (M.ret []))) (mVar 1)) rfl nd (VI.c (vi_range1 rfl T.b_range (va_cons (ve_var 1) (va_nil)))) (blkOk_by (N := N_law_door) (sc := defScope s_law_door) (by decide +kernel)) (fun _ _ _ _ _ => vg_name (i := 3) nd rfl (.inl rfl)) (by decide) (fun _ _ _ _ _ => vts_nil) (fun _ _ _ _ _ => ve_op op_mulV fMul_ok (ve_lst (va_cons (ve_str) (va_nil))) (ve_var 1))) (va_cons (ve_lst (va_nil)) (va_nil)))) (by with_unfolding_all rfl))
 (vss_cons (vs_set (i := 7) nd rfl (.inl rfl) (ve_lst (va_cons (ve_tup (va_cons (ve_str) (va_cons (ve_str) (va_nil)))) (va_cons (ve_tup (va_cons (ve_str) (va_cons (ve_str) (va_nil)))) (va_cons (ve_tup (va_cons (ve_str) (va_cons (ve_str) (va_nil)))) (va_cons (ve_tup (va_cons (ve_str) (va_cons (ve_str) (va_nil)))) (va_cons (ve_tup (va_cons (ve_str) (va_cons (ve_str) (va_nil)))) (va_nil))))))))
 (vss_cons (vs_for ps rfl (vi_range1 rfl T.b_range (va_cons (ve_var 1) (va_nil))) (vg_name (i := 3) nd rfl (.inr rfl)) (vss_one (vs_for ps rfl (vi_range1 rfl T.b_range (va_cons (ve_var 3) (va_nil))) (vg_name (i := 8) nd rfl (.inl rfl)) (vss_cons (vs_set (i := 9) nd rfl (.inl rfl) (ve_ifExp (vt_cmp op_lt fCmp_ok (ve_ix ix_V fIx_ok (ve_var 4) (ve_var 3) (fun _ _ => rfl)) (ve_ix ix_V fIx_ok (ve_var 4) (ve_var 8) (fun _ _ => rfl)) (nomark _)) (ve_ix ix_V fIx_ok (ve_var 7) (ve_int) (fun _ _ => rfl)) (ve_ix ix_V fIx_ok (ve_var 7) (ve_int) (fun _ _ => rfl))))
 (vss_cons (vs_if (VW.vt (vw_and (vt_val (ve_var 2)) (vw_and1 (vt_cmp (op_eqD hu64) fEq_ok (ve_callC (some 0) true c_law_of hr tk (va_cons (ve_var 0) (va_cons (ve_int) (va_nil)))) (ve_int) (nomark _))))) (vss_one (vs_set (i := 9) nd rfl (.inl rfl) (ve_ix ix_V fIx_ok (ve_var 7) (ve_int) (fun _ _ => rfl)))) (vss_nil))
 (vss_cons (vs_if (vt_not (vt_val (ve_var 2))) (vss_one (vs_set (i := 9) nd rfl (.inl rfl) (ve_callC (some 0) true c_law_one hr tk (va_cons (ve_var 0) (va_cons (ve_var 7) (va_nil)))))) (vss_nil))
 (vss_one (vs_unp (ve_var 9) (vg_tup (n := 2) rfl (vgs_cons (vg_grid (i := 5) (u := 3) (v := 8) rfl (by first | exact .inl rfl | exact .inr (.inl rfl) | exact .inr (.inr rfl)) rfl (by first | exact .inl rfl | exact .inr (.inl rfl) | exact .inr (.inr rfl)) rfl (by first | exact .inl rfl | exact .inr (.inl rfl) | exact .inr (.inr rfl))) (vgs_cons (vg_grid (i := 5) (u := 8) (v := 3) rfl (by first | exact .inl rfl | exact .inr (.inl rfl) | exact .inr (.inr rfl)) rfl (by first | exact .inl rfl | exact .inr (.inl rfl) | exact .inr (.inr rfl)) rfl (by first | exact .inl rfl | exact .inr (.inl rfl) | exact .inr (.inr rfl))) (vgs_nil))))))))))))
 (vss_cons (vs_for ps rfl (vi_range1 rfl T.b_range (va_cons (ve_var 1) (va_nil))) (vg_name (i := 3) nd rfl (.inr rfl)) (vss_one (vs_expr (ve_met 6 PySem.F.slot_list_append PySem.F.type_list_append mt_append append_ok rfl (by first | exact .inl rfl | exact .inr (.inl rfl) | exact .inr (.inr rfl)) (va_cons (ve_callTy call_tuple_of fTuple_ok rfl T.b_tuple boot_tuple (va_cons (ve_callC (some 0) true c_law_mixed hr tk (va_cons (ve_var 0) (va_cons (ve_lc (own := [(("j" : Str), 8)]) (sl := [8]) (g := gN 8) (t := mTest (mOp2 fNe (mVar 8) (mVar 3))) (m := mVar 8) rfl nd (VI.c (vi_range1 rfl T.b_range (va_cons (ve_var 1) (va_nil)))) (blkOk_by (N := N_law_door) (sc := defScope s_law_door) (by decide +kernel)) (fun _ _ _ _ _ => vg_name (i := 8) nd rfl (.inl rfl)) (by decide) (fun _ _ _ _ _ => vts_one (vt_cmp (op_neD hu64) fNe_ok (ve_var 8) (ve_var 3) (nomark _))) (fun _ _ _ _ _ => ve_var 8)) (va_nil)))) (va_nil))) (va_nil))))))
 (vss_one (vs_ret (ve_tup (va_cons (ve_callTy call_tuple_of fTuple_ok rfl T.b_tuple boot_tuple (va_cons (ve_lc (own := [(("row" : Str), 10)]) (sl := [10]) (g := gN 10) (t := M.ret true) (m := mCallB fTuple (mCons (mVar 10) (M.ret []))) rfl nd (VI.c (vi_seq (ve_var 5))) (blkOk_by (N := N_law_door) (sc := defScope s_law_door) (by decide +kernel)) (fun _ _ _ _ _ => vg_name (i := 10) nd rfl (.inl rfl)) (by decide) (fun _ _ _ _ _ => vts_nil) (fun _ _ _ _ _ => ve_callTy call_tuple_of fTuple_ok rfl T.b_tuple boot_tuple (va_cons (ve_var 10) (va_nil)))) (va_nil))) (va_cons (ve_callTy call_tuple_of fTuple_ok rfl T.b_tuple boot_tuple (va_cons (ve_var 6) (va_nil))) (va_nil))))))))))
abbrev s_law_house : Stmt := topS 17
abbrev N_law_house : List Str := [("pot" : Str), ("hands" : Str), ("rooms" : Str), ("steps" : Str), ("kinds" : Str), ("found" : Str), ("ways" : Str), ("room" : Str), ("hand" : Str), ("few" : Str), ("some" : Str)]
theorem sc_law_house : FnScope N_law_house [("pot" : Str), ("hands" : Str), ("rooms" : Str), ("steps" : Str), ("kinds" : Str)] (defScope s_law_house) := ⟨rfl, rfl, rfl, by decide +kernel, rfl, by decide +kernel, by decide +kernel⟩
noncomputable def b_law_house_1 : S :=
 sExpr (mMet fAppend 5 (mCons (mIf (mTest (mOp2 fLt (mCall f_law_of (some 0) true (mCons (mVar 0) (mCons (mDat (.int 6)) (M.ret [])))) (mOp2 fIx (mVar 4) (mDat (.int 2))))) (mCall f_law_door (some 0) true (mCons (mVar 0) (mCons (mVar 1) (mCons (mOp2 fIx (mVar 4) (mDat (.int 0))) (M.ret []))))) (mDat (.none))) (M.ret [])))
noncomputable def l_law_house_2 : M R :=
 mLc (still (iRng1 (mCons (mVar 2) (M.ret [])))) (gN 7) (mTest (mOp2 fGt (mCall f_law_of (some 0) true (mCons (mVar 0) (mCons (mDat (.int 3)) (M.ret [])))) (mDat (.int 0)))) (mVar 7) [7]
noncomputable def b_law_house_3 : S :=
 S.seq (sSet 9 (mOp2 fAdd (mDat (.int 2)) (mOp2 fMul (mDat (.int 2)) (mCall f_law_of (some 0) true (mCons (mVar 0) (mCons (mOp2 fDiv (mVar 3) (mDat (.int 2))) (M.ret [])))))))
 (S.seq (sSet 10 (l_law_house_2))
 (sExpr (mMet fAppend 6 (mCons (mCall f_law_way (some 0) true (mCons (mVar 0) (mCons (mIf (mTest (mOp2 fNe (mVar 10) (mLst (M.ret [])))) (mVar 10) (mLst (mCons (mCall f_law_of (some 0) true (mCons (mVar 0) (mCons (mVar 2) (M.ret [])))) (M.ret [])))) (mCons (mVar 9) (mCons (mOp2 fIx (mVar 4) (mDat (.int 1))) (M.ret [])))))) (M.ret [])))))
noncomputable def m_law_house : S :=
 S.seq (sPar2 5 6 (mCons (mLst (M.ret [])) (mCons (mLst (M.ret [])) (M.ret []))))
 (S.seq (sFor (iRng1 (mCons (mVar 2) (M.ret []))) (gN 7) b_law_house_1)
 (S.seq (sFor (iRng1 (mCons (mVar 1) (M.ret []))) (gN 8) b_law_house_3)
 (sRet (mTup (mCons (mCallB fTuple (mCons (mVar 5) (M.ret []))) (mCons (mCallB fTuple (mCons (mVar 6) (M.ret []))) (M.ret [])))))))
noncomputable def f_law_house : Fn := runF m_law_house 11 5
theorem ok_law_house {f : Addr} {fd : FuncData} (F : Fun K ("_law_house" : Str) ("_law_house" : Str) s_law_house f fd) (T : Tb K mg) (c_law_door : Cal P w K mg base 3 ("_law_door" : Str) [("pot" : Str), ("many" : Str), ("is_tame" : Str)] f_law_door) (c_law_of : Cal P w K mg base 1 ("_law_of" : Str) [("pot" : Str), ("many" : Str)] f_law_of) (c_law_way : Cal P w K mg base 3 ("_law_way" : Str) [("pot" : Str), ("rooms" : Str), ("steps" : Str), ("is_rising" : Str)] f_law_way) : FnOk P w K mg base (L2.CX P w) 4 f fd [("pot" : Str), ("hands" : Str), ("rooms" : Str), ("steps" : Str), ("kinds" : Str)] (FnSem K mg f_law_house) := by
  refine fn_ok F sc_law_house fun cdv A outer s H E B hr => ?_
  have nd := sc_law_house.nd
  have hu64 := hr.u64
  have hu65 := hr.u65
  have tk := takes_of (X := cxOf (L2.CX P w) P w K mg base N_law_house ("_law_house" : Str) (defScope s_law_house) f cdv A outer s H E) rfl rfl rfl rfl
  have ps := passes_of (X := cxOf (L2.CX P w) P w K mg base N_law_house ("_law_house" : Str) (defScope s_law_house) f cdv A outer s H E) rfl
  exact (vss_cons (vs_par2 (i := 5) (j := 6) rfl nd rfl rfl (by decide) rfl rfl (va_cons (ve_lst (va_nil)) (va_cons (ve_lst (va_nil)) (va_nil))) (by with_unfolding_all rfl))
 (vss_cons (vs_for ps rfl (vi_range1 rfl T.b_range (va_cons (ve_var 2) (va_nil))) (vg_name (i := 7) nd rfl (.inl rfl)) (vss_one (vs_expr (ve_met 5 PySem.F.slot_list_append PySem.F.type_list_append mt_append append_ok rfl (by first | exact .inl rfl | exact .inr (.inl rfl) | exact .inr (.inr rfl)) (va_cons (ve_ifExp (vt_cmp op_lt fCmp_ok (ve_callC (some 0) true c_law_of hr tk (va_cons (ve_var 0) (va_cons (ve_int) (va_nil)))) (ve_ix ix_V fIx_ok (ve_var 4) (ve_int) (fun _ _ => rfl)) (nomark _)) (ve_callC (some 0) true c_law_door hr tk (va_cons (ve_var 0) (va_cons (ve_var 1) (va_cons (ve_ix ix_V fIx_ok (ve_var 4) (ve_int) (fun _ _ => rfl)) (va_nil))))) (ve_non)) (va_nil))))))
 (vss_cons (vs_for ps rfl (vi_range1 rfl T.b_range (va_cons (ve_var 1) (va_nil))) (vg_name (i := 8) nd rfl (.inl rfl)) (vss_cons (vs_set (i := 9) nd rfl (.inl rfl) (ve_op op_addV fAdd_ok (ve_int) (ve_op op_mulV fMul_ok (ve_int) (ve_callC (some 0) true c_law_of hr tk (va_cons (ve_var 0) (va_cons (ve_op op_fdiv fDiv_ok (ve_var 3) (ve_int)) (va_nil)))))))
 (vss_cons (vs_setLc (i := 10) (own := [(("room" : Str), 7)]) (sl := [7]) (g := gN 7) (t := mTest (mOp2 fGt (mCall f_law_of (some 0) true (mCons (mVar 0) (mCons (mDat (.int 3)) (M.ret [])))) (mDat (.int 0)))) (m := mVar 7) rfl nd rfl rfl (sw_true rfl rfl rfl (by decide +kernel)) (VI.c (vi_range1 rfl T.b_range (va_cons (ve_var 2) (va_nil)))) (blkOk_by (N := N_law_house) (sc := defScope s_law_house) (by decide +kernel)) (fun _ _ _ _ _ => vg_name (i := 7) nd rfl (.inl rfl)) (by decide) (fun _ _ _ _ _ => vts_one (vt_cmp op_gt fCmp_ok (ve_callC (some 0) true c_law_of hr L2.takes0 (va_cons (ve_var 0) (va_cons (ve_int) (va_nil)))) (ve_int) (nomark _))) (fun _ _ _ _ _ => ve_var 7))
 (vss_one (vs_expr (ve_met 6 PySem.F.slot_list_append PySem.F.type_list_append mt_append append_ok rfl (by first | exact .inl rfl | exact .inr (.inl rfl) | exact .inr (.inr rfl)) (va_cons (ve_callC (some 0) true c_law_way hr tk (va_cons (ve_var 0) (va_cons (ve_ifExp (vt_cmp (op_neD hu64) fNe_ok (ve_var 10) (ve_lst (va_nil)) (nomark _)) (ve_var 10) (ve_lst (va_cons (ve_callC (some 0) true c_law_of hr tk (va_cons (ve_var 0) (va_cons (ve_var 2) (va_nil)))) (va_nil)))) (va_cons (ve_var 9) (va_cons (ve_ix ix_V fIx_ok (ve_var 4) (ve_int) (fun _ _ => rfl)) (va_nil)))))) (va_nil))))))))
 (vss_one (vs_ret (ve_tup (va_cons (ve_callTy call_tuple_of fTuple_ok rfl T.b_tuple boot_tuple (va_cons (ve_var 5) (va_nil))) (va_cons (ve_callTy call_tuple_of fTuple_ok rfl T.b_tuple boot_tuple (va_cons (ve_var 6) (va_nil))) (va_nil)))))))))
abbrev s_law_heard : Stmt := topS 18
theorem sc_law_heard : FnScope [("call" : Str), ("error" : Str)] [("call" : Str)] (defScope s_law_heard) := ⟨rfl, rfl, rfl, by decide +kernel, rfl, by decide +kernel, by decide +kernel⟩
abbrev s_law_gated : Stmt := topS 19
abbrev N_law_gated : List Str := [("house" : Str), ("hands" : Str), ("rooms" : Str), ("ways" : Str), ("found" : Str), ("hand" : Str), ("way" : Str)]
theorem sc_law_gated : FnScope N_law_gated [("house" : Str), ("hands" : Str)] (defScope s_law_gated) := ⟨rfl, rfl, rfl, by decide +kernel, rfl, by decide +kernel, by decide +kernel⟩
noncomputable def b_law_gated_1 : S :=
 sExpr (mMet fAppend 4 (mCons (mIf (mTest (mOp2 fIn (mVar 5) (mVar 1))) (mOp2 fAdd (mOp2 fAdd (mTup (mCons (mTup (mCons (mDat (.str ("in" : Str))) (mCons (mCallB fLen (mCons (mVar 2) (M.ret []))) (M.ret [])))) (M.ret []))) (mVar 6)) (mTup (mCons (mTup (mCons (mDat (.str ("out" : Str))) (mCons (mCallB fLen (mCons (mVar 2) (M.ret []))) (M.ret [])))) (M.ret [])))) (mVar 6)) (M.ret [])))
noncomputable def m_law_gated : S :=
 S.seq (sUnp (gT 2 (gConsD (gN 2) (gConsD (gN 3) (gNilD)))) (mVar 0))
 (S.seq (sSet 4 (mLst (M.ret [])))
 (S.seq (sFor (iEnum1 (mVar 3)) (gT 2 (gConsD (gN 5) (gConsD (gN 6) (gNilD)))) b_law_gated_1)
 (sRet (mTup (mCons (mOp2 fAdd (mVar 2) (mTup (mCons (mDat (.none)) (M.ret [])))) (mCons (mCallB fTuple (mCons (mVar 4) (M.ret []))) (M.ret [])))))))
noncomputable def f_law_gated : Fn := runF m_law_gated 7 2
theorem ok_law_gated {f : Addr} {fd : FuncData} (F : Fun K ("_law_gated" : Str) ("_law_gated" : Str) s_law_gated f fd) (T : Tb K mg)  : FnOk P w K mg base (L2.CX P w) 1 f fd [("house" : Str), ("hands" : Str)] (FnSem K mg f_law_gated) := by
  refine fn_ok F sc_law_gated fun cdv A outer s H E B hr => ?_
  have nd := sc_law_gated.nd
  have hu64 := hr.u64
  have hu65 := hr.u65
  have tk := takes_of (X := cxOf (L2.CX P w) P w K mg base N_law_gated ("_law_gated" : Str) (defScope s_law_gated) f cdv A outer s H E) rfl rfl rfl rfl
  have ps := passes_of (X := cxOf (L2.CX P w) P w K mg base N_law_gated ("_law_gated" : Str) (defScope s_law_gated) f cdv A outer s H E) rfl
  exact (vss_cons (vs_unp (ve_var 0) (vg_tup (n := 2) rfl (vgs_cons (vg_name (i := 2) nd rfl (.inl rfl)) (vgs_cons (vg_name (i := 3) nd rfl (.inl rfl)) (vgs_nil)))))
 (vss_cons (vs_set (i := 4) nd rfl (.inl rfl) (ve_lst (va_nil)))
 (vss_cons (vs_for ps rfl (vi_enum rfl T.b_enumerate (ve_var 3)) (vg_tup (n := 2) rfl (vgs_cons (vg_name (i := 5) nd rfl (.inl rfl)) (vgs_cons (vg_name (i := 6) nd rfl (.inl rfl)) (vgs_nil)))) (vss_one (vs_expr (ve_met 4 PySem.F.slot_list_append PySem.F.type_list_append mt_append append_ok rfl (by first | exact .inl rfl | exact .inr (.inl rfl) | exact .inr (.inr rfl)) (va_cons (ve_ifExp (vt_cmp (op_inV hu65) fIn_ok (ve_var 5) (ve_var 1) (by with_unfolding_all rfl)) (ve_op op_addV fAdd_ok (ve_op op_addV fAdd_ok (ve_tup (va_cons (ve_tup (va_cons (ve_str) (va_cons (ve_callB call_len_seq fLen_ok rfl T.b_len PySem.boot_len (va_cons (ve_var 2) (va_nil))) (va_nil)))) (va_nil))) (ve_var 6)) (ve_tup (va_cons (ve_tup (va_cons (ve_str) (va_cons (ve_callB call_len_seq fLen_ok rfl T.b_len PySem.boot_len (va_cons (ve_var 2) (va_nil))) (va_nil)))) (va_nil)))) (ve_var 6)) (va_nil))))))
 (vss_one (vs_ret (ve_tup (va_cons (ve_op op_addV fAdd_ok (ve_var 2) (ve_tup (va_cons (ve_non) (va_nil)))) (va_cons (ve_callTy call_tuple_of fTuple_ok rfl T.b_tuple boot_tuple (va_cons (ve_var 4) (va_nil))) (va_nil)))))))))
abbrev slaw : Stmt := topS 20
abbrev Nlaw : List Str := [("script" : Str), ("pot" : Str), ("turn" : Str), ("hands" : Str), ("rooms" : Str), ("sizes" : Str), ("ways" : Str), ("row" : Str), ("same" : Str), ("due" : Str), ("told" : Str), ("house" : Str), ("some" : Str), ("hand" : Str), ("size" : Str)]
theorem sclaw : FnScope Nlaw [("script" : Str)] (defScope slaw) := ⟨rfl, rfl, rfl, by decide +kernel, rfl, by decide +kernel, by decide +kernel⟩
noncomputable def llaw_1 : M R :=
 mLc (still (iRng1 (mCons (mVar 3) (M.ret [])))) (gN 13) (M.ret true) (mCall f_law_one (some 0) true (mCons (mVar 1) (mCons (mLst (mCons (mDat (.int 2)) (mCons (mDat (.int 20)) (mCons (mDat (.int 22)) (mCons (mDat (.int 22)) (mCons (mDat (.int 24)) (M.ret []))))))) (M.ret [])))) [13]
noncomputable def llaw_2 : M R :=
 mLc (still (iSeq (mVar 5))) (gN 14) (M.ret true) (mCall f_law_way (some 0) true (mCons (mVar 1) (mCons (mRgL1 (mVar 4)) (mCons (mVar 14) (mCons (mDat (.bool false)) (M.ret [])))))) [14]
noncomputable def llaw_3 : M R :=
 mLc (still (iRng1 (mCons (mVar 3) (M.ret [])))) (gN 13) (mTest (mOp2 fEq (mCall f_law_of (some 0) true (mCons (mVar 1) (mCons (mDat (.int 2)) (M.ret [])))) (mDat (.int 0)))) (mVar 13) [13]
noncomputable def llaw_4 : M R :=
 mLc (still (iSeq (mVar 12))) (gN 13) (mTest (mOp2 fGt (mCallB fLen (mCons (mOp2 fIx (mOp2 fIx (mVar 11) (mDat (.int 1))) (mVar 13)) (M.ret []))) (mDat (.int 22)))) (mVar 13) [13]
noncomputable def blaw_5 : S :=
 S.seq (sPar2 3 4 (mCons (mOp2 fAdd (mDat (.int 1)) (mCall f_law_of (some 0) true (mCons (mVar 1) (mCons (mDat (.int 5)) (M.ret []))))) (mCons (mCall f_law_one (some 0) true (mCons (mVar 1) (mCons (mLst (mCons (mDat (.int 1)) (mCons (mDat (.int 2)) (mCons (mDat (.int 3)) (mCons (mDat (.int 4)) (mCons (mDat (.int 5)) (mCons (mDat (.int 5)) (mCons (mDat (.int 6)) (M.ret []))))))))) (M.ret [])))) (M.ret []))))
 (S.seq (sSet 11 (mCall f_law_house (some 0) true (mCons (mVar 1) (mCons (mVar 3) (mCons (mVar 4) (mCons (mDat (.int 6)) (mCons (mTup (mCons (mDat (.bool false)) (mCons (mDat (.bool false)) (mCons (mCall f_law_of (some 0) true (mCons (mVar 1) (mCons (mDat (.int 4)) (M.ret [])))) (M.ret []))))) (M.ret []))))))))
 (S.seq (sIf (mTest (mOp2 fGt (mVar 2) (mDat (.int 1)))) (S.seq (sSet 5 (llaw_1))
 (S.seq (sSet 6 (llaw_2))
 (sSet 11 (mTup (mCons (mOp2 fIx (mVar 11) (mDat (.int 0))) (mCons (mCallB fTuple (mCons (mVar 6) (M.ret []))) (M.ret []))))))) (S.skip))
 (S.seq (sSet 7 (llaw_3))
 (S.seq (sSet 12 (mCallB fTuple (mCons (mCall f_law_one (some 0) true (mCons (mVar 1) (mCons (mLst (mCons (mVar 7) (mCons (mVar 7) (mCons (mVar 7) (mCons (mRgL1 (mVar 3)) (mCons (mLst (M.ret [])) (M.ret []))))))) (M.ret [])))) (M.ret []))))
 (S.seq (sPar2 8 9 (mCons (mCallB fRepr (mCons (mLst (mCons (mVar 11) (mCons (mVar 12) (M.ret [])))) (M.ret []))) (mCons (mLst (mCons (mDat (.str ("told" : Str))) (mCons (mCall f_law_gated none true (mCons (mVar 11) (mCons (mVar 12) (M.ret [])))) (M.ret [])))) (M.ret []))))
 (S.seq (sIf (mOr (mTest (mOp2 fEq (mVar 4) (mDat (.int 6)))) (mTest (mOp2 fNe (llaw_4) (mLst (M.ret []))))) (sSet 9 (mLst (mCons (mDat (.str ("unfit" : Str))) (mCons (mDat (.bool true)) (mCons (mDat (.bool false)) (M.ret [])))))) (S.skip))
 (S.seq (sIf (mTest (mOp2 fEq (mVar 2) (mDat (.int 1)))) (sSet 10 (mHeard (mCallK fgated true [1, 0] (mCons (mVar 12) (mCons (mVar 11) (M.ret [])))))) (sSet 10 (mHeard (mCall fgated none true (mCons (mVar 11) (mCons (mVar 12) (M.ret [])))))))
 (S.seq (sIf (mOr (mTest (mOp2 fNe (mCallB fRepr (mCons (mVar 10) (M.ret []))) (mCallB fRepr (mCons (mVar 9) (M.ret []))))) (mTest (mOp2 fNe (mCallB fRepr (mCons (mLst (mCons (mVar 11) (mCons (mVar 12) (M.ret [])))) (M.ret []))) (mVar 8)))) (sRet (mDat (.bool false))) (S.skip))
 (sIf (mAnd (mTest (mOp2 fEq (mVar 2) (mDat (.int 2)))) (mTest (mOp2 fNe (mCallB fRepr (mCons (mHeard (mCall fgated none true (mCons (mVar 11) (mCons (mVar 12) (M.ret []))))) (M.ret []))) (mCallB fRepr (mCons (mVar 9) (M.ret [])))))) (sRet (mDat (.bool false))) (S.skip))))))))))
noncomputable def mlaw : S :=
 S.seq (sSet 1 (mCall f_law_pot (some 0) true (mCons (mVar 0) (M.ret []))))
 (S.seq (sFor (iRng1 (mCons (mDat (.int 4)) (M.ret []))) (gN 2) blaw_5)
 (sRet (mDat (.bool true))))
noncomputable def flaw : Fn := runF mlaw 15 1
theorem ok_law_law {fa a c Tt gh U Wy TM BR BH : Addr} {fdH : FuncData} {cdv : Value} {s : Shared} {H : Hp} {ns : List Int} (T : Tb K mg) (A0 : At0 K H a Tt ns) (TB : LamX.TabB base mg c Tt) (hcv : cdv = .ref c) (hr : Room 4 (callerA.deeper (envOfC ("law" : Str) (defScope slaw) s.heap.objs.size fa cdv)))
    (D : Hd K mg U Wy TM BR BH) (FH : Fun K ("_law_heard" : Str) ("_law_heard" : Str) s_law_heard gh fdH) (bH : Binds K fdH [("call" : Str)] []) (gH : mg ("_law_heard" : Str) = some (.ref gh)) (c_law_gated : Cal P w K mg base 1 ("_law_gated" : Str) [("house" : Str), ("hands" : Str)] f_law_gated) (c_law_house : Cal P w K mg base 4 ("_law_house" : Str) [("pot" : Str), ("hands" : Str), ("rooms" : Str), ("steps" : Str), ("kinds" : Str)] f_law_house) (c_law_of : Cal P w K mg base 1 ("_law_of" : Str) [("pot" : Str), ("many" : Str)] f_law_of) (c_law_one : Cal P w K mg base 2 ("_law_one" : Str) [("pot" : Str), ("items" : Str)] f_law_one) (c_law_pot : Cal P w K mg base 1 ("_law_pot" : Str) [("script" : Str)] f_law_pot) (c_law_way : Cal P w K mg base 3 ("_law_way" : Str) [("pot" : Str), ("rooms" : Str), ("steps" : Str), ("is_rising" : Str)] f_law_way) (cgated : Cal P w K mg base 1 ("gated" : Str) [("house" : Str), ("hands" : Str)] fgated) (kgated_10 : CalK P w K mg base 1 ("gated" : Str) [("house" : Str), ("hands" : Str)] [("hands" : Str), ("house" : Str)] [1, 0] fgated) :
    VSs (cxOf (L2.CX P w) P w K mg base Nlaw ("law" : Str) (defScope slaw) fa cdv callerA [] s H fun _ _ _ => False) (lawB H Tt (L2.start Nlaw [.ref a]) ((envOfC ("law" : Str) (defScope slaw) s.heap.objs.size fa cdv).qual ++ "<lambda>")) (fun _ _ _ _ => False) (defBody slaw) mlaw := by
  have nd := sclaw.nd
  have hu64 := hr.u64
  have hu65 := hr.u65
  have hcode := hcv
  have tk : Takes (cxOf (L2.CX P w) P w K mg base Nlaw ("law" : Str) (defScope slaw) fa cdv callerA [] s H fun _ _ _ => False) (fun _ _ _ _ => False) := L2.takes0
  have ps := passes_of (X := cxOf (L2.CX P w) P w K mg base Nlaw ("law" : Str) (defScope slaw) fa cdv callerA [] s H fun _ _ _ => False) rfl
  have hB : ∀ b ps, H b = some (.tbl ps) → b = Tt := fun b ps h => by
    rcases A0.only b _ h with z | ⟨o, xs, z⟩
    · exact z.1
    · cases z
  have hG : ∀ (cdg : Value) (q : Str), LamX.GivesTo (cxOf (L2.CX P w) P w K mg base Nlaw ("law" : Str) (defScope slaw) fa cdv callerA [] s H fun _ _ _ => False) [("call" : Str), ("error" : Str)] ("_law_heard" : Str) (defScope s_law_heard) gh cdg (defBody s_law_heard) ("call" : Str) q (TTh U TM BR BH) := fun cdg q => heard_gives D sc_law_heard rfl rfl rfl rfl rfl rfl rfl
  exact (vss_cons (vs_set (i := 1) nd rfl (.inr rfl) (ve_callC (some 0) true c_law_pot hr tk (va_cons (ve_var 0) (va_nil))))
 (vss_cons (vs_for ps rfl (vi_range1 rfl T.b_range (va_cons (ve_int) (va_nil))) (vg_name (i := 2) nd rfl (.inl rfl)) (vss_cons (vs_parT2 (i := 3) (j := 4) rfl nd rfl rfl (by decide) (.inl rfl) (.inr rfl) (va_cons (ve_op op_addV fAdd_ok (ve_int) (ve_callC (some 0) true c_law_of hr tk (va_cons (ve_var 1) (va_cons (ve_int) (va_nil))))) (va_cons (ve_callC (some 0) true c_law_one hr tk (va_cons (ve_var 1) (va_cons (ve_lst (va_cons (ve_int) (va_cons (ve_int) (va_cons (ve_int) (va_cons (ve_int) (va_cons (ve_int) (va_cons (ve_int) (va_cons (ve_int) (va_nil))))))))) (va_nil)))) (va_nil))) (by rfl) (by with_unfolding_all rfl))
 (vss_cons (vs_set (i := 11) nd rfl (.inr rfl) (ve_callC (some 0) true c_law_house hr tk (va_cons (ve_var 1) (va_cons (ve_var 3) (va_cons (ve_var 4) (va_cons (ve_int) (va_cons (ve_tup (va_cons (ve_bl) (va_cons (ve_bl) (va_cons (ve_callC (some 0) true c_law_of hr tk (va_cons (ve_var 1) (va_cons (ve_int) (va_nil)))) (va_nil))))) (va_nil))))))))
 (vss_cons (vs_if (vt_cmp op_gt fCmp_ok (ve_var 2) (ve_int) (nomark _)) (vss_cons (vs_setLc (i := 5) (own := [(("hand" : Str), 13)]) (sl := [13]) (g := gN 13) (t := M.ret true) (m := mCall f_law_one (some 0) true (mCons (mVar 1) (mCons (mLst (mCons (mDat (.int 2)) (mCons (mDat (.int 20)) (mCons (mDat (.int 22)) (mCons (mDat (.int 22)) (mCons (mDat (.int 24)) (M.ret []))))))) (M.ret [])))) rfl nd rfl rfl (sw_true rfl rfl rfl (by decide +kernel)) (VI.c (vi_range1 rfl T.b_range (va_cons (ve_var 3) (va_nil)))) (blkOk_by (N := Nlaw) (sc := defScope slaw) (by decide +kernel)) (fun _ _ _ _ _ => vg_name (i := 13) nd rfl (.inl rfl)) (by decide) (fun _ _ _ _ _ => vts_nil) (fun _ _ _ _ _ => ve_callC (some 0) true c_law_one hr L2.takes0 (va_cons (ve_var 1) (va_cons (ve_lst (va_cons (ve_int) (va_cons (ve_int) (va_cons (ve_int) (va_cons (ve_int) (va_cons (ve_int) (va_nil))))))) (va_nil)))))
 (vss_cons (vs_setLc (i := 6) (own := [(("size" : Str), 14)]) (sl := [14]) (g := gN 14) (t := M.ret true) (m := mCall f_law_way (some 0) true (mCons (mVar 1) (mCons (mRgL1 (mVar 4)) (mCons (mVar 14) (mCons (mDat (.bool false)) (M.ret [])))))) rfl nd rfl rfl (sw_true rfl rfl rfl (by decide +kernel)) (VI.c (vi_seq (ve_var 5))) (blkOk_by (N := Nlaw) (sc := defScope slaw) (by decide +kernel)) (fun _ _ _ _ _ => vg_name (i := 14) nd rfl (.inl rfl)) (by decide) (fun _ _ _ _ _ => vts_nil) (fun _ _ _ _ _ => ve_callC (some 0) true c_law_way hr L2.takes0 (va_cons (ve_var 1) (va_cons (ve_rgL1 rfl T.b_list T.b_range (ve_var 4)) (va_cons (ve_var 14) (va_cons (ve_bl) (va_nil)))))))
 (vss_one (vs_set (i := 11) nd rfl (.inr rfl) (ve_tup (va_cons (ve_ix ix_V fIx_ok (ve_var 11) (ve_int) (fun _ _ => rfl)) (va_cons (ve_callTy call_tuple_of fTuple_ok rfl T.b_tuple boot_tuple (va_cons (ve_var 6) (va_nil))) (va_nil)))))))) (vss_nil))
 (vss_cons (vs_setLc (i := 7) (own := [(("hand" : Str), 13)]) (sl := [13]) (g := gN 13) (t := mTest (mOp2 fEq (mCall f_law_of (some 0) true (mCons (mVar 1) (mCons (mDat (.int 2)) (M.ret [])))) (mDat (.int 0)))) (m := mVar 13) rfl nd rfl rfl (sw_true rfl rfl rfl (by decide +kernel)) (VI.c (vi_range1 rfl T.b_range (va_cons (ve_var 3) (va_nil)))) (blkOk_by (N := Nlaw) (sc := defScope slaw) (by decide +kernel)) (fun _ _ _ _ _ => vg_name (i := 13) nd rfl (.inl rfl)) (by decide) (fun _ _ _ _ _ => vts_one (vt_cmp (op_eqD hu64) fEq_ok (ve_callC (some 0) true c_law_of hr L2.takes0 (va_cons (ve_var 1) (va_cons (ve_int) (va_nil)))) (ve_int) (nomark _))) (fun _ _ _ _ _ => ve_var 13))
 (vss_cons (vs_set (i := 12) nd rfl (.inr rfl) (ve_callTy call_tuple_of fTuple_ok rfl T.b_tuple boot_tuple (va_cons (ve_callC (some 0) true c_law_one hr tk (va_cons (ve_var 1) (va_cons (ve_lst (va_cons (ve_var 7) (va_cons (ve_var 7) (va_cons (ve_var 7) (va_cons (ve_rgL1 rfl T.b_list T.b_range (ve_var 3)) (va_cons (ve_lst (va_nil)) (va_nil))))))) (va_nil)))) (va_nil))))
 (vss_cons (vs_par2 (i := 8) (j := 9) rfl nd rfl rfl (by decide) rfl rfl (va_cons (ve_callB (call_reprV rfl hu64) fRepr_ok rfl T.b_repr boot_repr (va_cons (ve_lst (va_cons (ve_var 11) (va_cons (ve_var 12) (va_nil)))) (va_nil))) (va_cons (ve_lst (va_cons (ve_str) (va_cons (ve_callC none true c_law_gated hr tk (va_cons (ve_var 11) (va_cons (ve_var 12) (va_nil)))) (va_nil)))) (va_nil))) (by with_unfolding_all rfl))
 (vss_cons (vs_if (VW.vt (vw_or (vt_cmp (op_eqD hu64) fEq_ok (ve_var 4) (ve_int) (nomark _)) (vw_or1 (vt_cmp (op_neD hu64) fNe_ok (ve_lc (own := [(("hand" : Str), 13)]) (sl := [13]) (g := gN 13) (t := mTest (mOp2 fGt (mCallB fLen (mCons (mOp2 fIx (mOp2 fIx (mVar 11) (mDat (.int 1))) (mVar 13)) (M.ret []))) (mDat (.int 22)))) (m := mVar 13) rfl nd (VI.c (vi_seq (ve_var 12))) (blkOk_by (N := Nlaw) (sc := defScope slaw) (by decide +kernel)) (fun _ _ _ _ _ => vg_name (i := 13) nd rfl (.inl rfl)) (by decide) (fun _ _ _ _ _ => vts_one (vt_cmp op_gt fCmp_ok (ve_callB call_len_seq fLen_ok rfl T.b_len PySem.boot_len (va_cons (ve_ix ix_V fIx_ok (ve_ix ix_V fIx_ok (ve_var 11) (ve_int) (fun _ _ => rfl)) (ve_var 13) (fun _ _ => rfl)) (va_nil))) (ve_int) (nomark _))) (fun _ _ _ _ _ => ve_var 13)) (ve_lst (va_nil)) (nomark _))))) (vss_one (vs_set (i := 9) nd rfl (.inl rfl) (ve_lst (va_cons (ve_str) (va_cons (ve_bl) (va_cons (ve_bl) (va_nil))))))) (vss_nil))
 (vss_cons (vs_if (vt_cmp (op_eqD hu64) fEq_ok (ve_var 2) (ve_int) (nomark _)) (vss_one (vs_set (i := 10) nd rfl (.inl rfl) (ve_heard (k := 1) D FH bH gH sc_law_heard (.inl rfl) hG TB hcode ⟨rfl, rfl⟩ (fun _ _ z => z) hB (hr.mono (by decide)) (LamX.lamS_by (sc := defScope slaw) (by decide +kernel)) rfl (fun _ _ _ _ _ => rfl) (fun A outer s H E f c2 hr2 => ve_callKw true [1, 0] kgated_10 hr2 (takes_of rfl rfl rfl rfl) (vk_cons (ve_var 12) (vk_cons (ve_var 11) (vk_nil))) (hz := (len_cons (len_cons len_nil))))))) (vss_one (vs_set (i := 10) nd rfl (.inl rfl) (ve_heard (k := 1) D FH bH gH sc_law_heard (.inl rfl) hG TB hcode ⟨rfl, rfl⟩ (fun _ _ z => z) hB (hr.mono (by decide)) (LamX.lamS_by (sc := defScope slaw) (by decide +kernel)) rfl (fun _ _ _ _ _ => rfl) (fun A outer s H E f c2 hr2 => ve_callC none true cgated hr2 (takes_of rfl rfl rfl rfl) (va_cons (ve_var 11) (va_cons (ve_var 12) (va_nil))))))))
 (vss_cons (vs_if (VW.vt (vw_or (vt_cmp (op_neD hu64) fNe_ok (ve_callB (call_reprV rfl hu64) fRepr_ok rfl T.b_repr boot_repr (va_cons (ve_var 10) (va_nil))) (ve_callB (call_reprV rfl hu64) fRepr_ok rfl T.b_repr boot_repr (va_cons (ve_var 9) (va_nil))) (nomark _)) (vw_or1 (vt_cmp (op_neD hu64) fNe_ok (ve_callB (call_reprV rfl hu64) fRepr_ok rfl T.b_repr boot_repr (va_cons (ve_lst (va_cons (ve_var 11) (va_cons (ve_var 12) (va_nil)))) (va_nil))) (ve_var 8) (nomark _))))) (vss_one (vs_ret (ve_bl))) (vss_nil))
 (vss_one (vs_if (VW.vt (vw_and (vt_cmp (op_eqD hu64) fEq_ok (ve_var 2) (ve_int) (nomark _)) (vw_and1 (vt_cmp (op_neD hu64) fNe_ok (ve_callB (call_reprV rfl hu64) fRepr_ok rfl T.b_repr boot_repr (va_cons (ve_heard (k := 1) D FH bH gH sc_law_heard (.inl rfl) hG TB hcode ⟨rfl, rfl⟩ (fun _ _ z => z) hB (hr.mono (by decide)) (LamX.lamS_by (sc := defScope slaw) (by decide +kernel)) rfl (fun _ _ _ _ _ => rfl) (fun A outer s H E f c2 hr2 => ve_callC none true cgated hr2 (takes_of rfl rfl rfl rfl) (va_cons (ve_var 11) (va_cons (ve_var 12) (va_nil))))) (va_nil))) (ve_callB (call_reprV rfl hu64) fRepr_ok rfl T.b_repr boot_repr (va_cons (ve_var 9) (va_nil))) (nomark _))))) (vss_one (vs_ret (ve_bl))) (vss_nil)))))))))))))
 (vss_one (vs_ret (ve_bl)))))
end
end KD


namespace KD
open PySem PySem.Spec L2 VL
open PyProof.Rows hiding St
theorem canLay_ints : ∀ cs : List Int, PyData.canLayAll0 (cs.map PyData.int) = true
  | [] => rfl
  | c :: cs => by simp [PyData.canLayAll0, PyData.canLay0, canLay_ints cs]
theorem depth_ints : ∀ cs : List Int, PyData.depthAll (cs.map PyData.int) = 0
  | [] => rfl
  | c :: cs => by simp [PyData.depthAll, PyData.depth, depth_ints cs]
theorem shaped_ints (cs : List Int) : SeqAt.shaped (.list (cs.map PyData.int)) = true := by
  simp [SeqAt.shaped, PyData.canLay0, PyData.depth, canLay_ints, depth_ints]
theorem potNe0 (cs : List Int) (m t : Int) (r : En) : mPotNe 0 (some (.io (.pot cs m t)) :: r) = .ok (!cs.isEmpty) (some (.io (.pot cs m t)) :: r) := by
  have s0 := shaped_ints cs
  simp [mPotNe, obOf, intsD, s0, eqv_nil]
theorem of_ok (cs : List Int) (m t many : Int) (hc : cs.length ≤ 63) (hm : many < 1073741824) :
    ∃ r cs' m' t', f_law_of [.io (.pot cs m t), .val (.int many)] = .ok (.val (.int r)) (some (.pot cs' m' t')) ∧ cs'.length ≤ 63 ∧ 0 ≤ r ∧ (r < many ∨ r = 0) := by
  by_cases h2 : many < 2
  · refine ⟨0, cs, m, t, ?_, hc, by omega, .inr rfl⟩
    simp [VL.mVar, VL.mDat, VL.mOp2, VL.mOp1, VL.look, VL.mCallB, VL.looks, VL.mCons, VL.mTup, VL.mLst, VL.mTest, VL.mNot, VL.mAnd, VL.mOr, VL.mBool, VL.mIf, VL.mAndV, VL.mOrV, VL.mNotV, VL.sRet, VL.sSet, VL.sExpr, VL.sIf, VL.sRetN, VL.sBreak, VL.sCont, VL.sPar2, VL.sPar3, VL.sUnp, VL.mMet, VL.mMet1, VL.mCall, VL.passL, VL.pass1, VL.fAppend, VL.fExtend, VL.fPop, VL.fPopAt, VL.mPotI, VL.mPotPop, VL.mPotApp, VL.sPotSet, VL.mScr, VL.mScrLen, VL.mRgL1, VL.mPotNew, VL.gN, VL.gT, VL.gConsD, VL.gNilD, VL.gGrid, VL.iSeq, VL.iRng1, VL.iRng2, VL.iEnum1, VL.still, VL.iLook, VL.sRaise, VL.mSl, VL.mPart, VL.mCallK, VL.mHeard, VL.vw, VL.vws, VL.tvw, VL.obD, VL.tvz, VL.obZ, VL.fz, VL.fzE, VL.frz, VL.frzs, VL.sto, VL.isTmp, VL.resOf, VL.outOf, VL.ioIx, VL.env0, VL.argsOf, VL.argOf, VL.ioSlot, VL.looked, VL.putO, VL.putL, VL.putB, VL.obOf, VL.intAt, VL.lstOf, VL.seqOf, VL.asInt, VL.asInts, VL.wipeE, VL.back, VL.plain, VL.fAdd, VL.fSub, VL.fMul, VL.fDiv, VL.fMod, VL.fPow, VL.fNeg, VL.fCmp, VL.fIsN, VL.fNotN, VL.fIx, VL.fLen, VL.fAbs, VL.fInt, VL.fList, VL.fTuple, VL.fSl, VL.fRgL, VL.small, VL.sm64, VL.flatR, VL.permL, VL.noM, VL.noMs, VL.noMt, VL.noMo, VL.noMos, VL.notIo, VL.seqD, VL.isN, VL.S.seq, VL.S.run, VL.S.skip, VL.M.bind, VL.M.ret, VL.M.of, VL.runF, VL.appF, f_law_of, m_law_of, h2]
  · have h2' : 0 < many := by omega
    rcases List.eq_nil_or_concat cs with rfl | ⟨cs0, x, rfl⟩
    · obtain ⟨n1, h1⟩ : ∃ n, (m + (t + 1) * 2654435761) % 4294967279 = n := ⟨_, rfl⟩
      obtain ⟨n2, h3⟩ : ∃ n, (n1 * n1 + (t + 1) * 40503 + 5) % 4294967231 = n := ⟨_, rfl⟩
      obtain ⟨n3, h4⟩ : ∃ n, (n2 * n2 + m) % 4294967291 = n := ⟨_, rfl⟩
      have a1 : -18446744073709551616 < n1 ∧ n1 < 18446744073709551616 := by omega
      have a2 : -18446744073709551616 < n2 ∧ n2 < 18446744073709551616 := by omega
      refine ⟨n3 / 256 % many, [], m, t + 1, ?_, by simp, Int.emod_nonneg _ (by omega), .inl (Int.emod_lt_of_pos _ (by omega))⟩
      simp [VL.mVar, VL.mDat, VL.mOp2, VL.mOp1, VL.look, VL.mCallB, VL.looks, VL.mCons, VL.mTup, VL.mLst, VL.mTest, VL.mNot, VL.mAnd, VL.mOr, VL.mBool, VL.mIf, VL.mAndV, VL.mOrV, VL.mNotV, VL.sRet, VL.sSet, VL.sExpr, VL.sIf, VL.sRetN, VL.sBreak, VL.sCont, VL.sPar2, VL.sPar3, VL.sUnp, VL.mMet, VL.mMet1, VL.mCall, VL.passL, VL.pass1, VL.fAppend, VL.fExtend, VL.fPop, VL.fPopAt, VL.mPotI, VL.mPotPop, VL.mPotApp, VL.sPotSet, VL.mScr, VL.mScrLen, VL.mRgL1, VL.mPotNew, VL.gN, VL.gT, VL.gConsD, VL.gNilD, VL.gGrid, VL.iSeq, VL.iRng1, VL.iRng2, VL.iEnum1, VL.still, VL.iLook, VL.sRaise, VL.mSl, VL.mPart, VL.mCallK, VL.mHeard, VL.vw, VL.vws, VL.tvw, VL.obD, VL.tvz, VL.obZ, VL.fz, VL.fzE, VL.frz, VL.frzs, VL.sto, VL.isTmp, VL.resOf, VL.outOf, VL.ioIx, VL.env0, VL.argsOf, VL.argOf, VL.ioSlot, VL.looked, VL.putO, VL.putL, VL.putB, VL.obOf, VL.intAt, VL.lstOf, VL.seqOf, VL.asInt, VL.asInts, VL.wipeE, VL.back, VL.plain, VL.fAdd, VL.fSub, VL.fMul, VL.fDiv, VL.fMod, VL.fPow, VL.fNeg, VL.fCmp, VL.fIsN, VL.fNotN, VL.fIx, VL.fLen, VL.fAbs, VL.fInt, VL.fList, VL.fTuple, VL.fSl, VL.fRgL, VL.small, VL.sm64, VL.flatR, VL.permL, VL.noM, VL.noMs, VL.noMt, VL.noMo, VL.noMos, VL.notIo, VL.seqD, VL.isN, VL.S.seq, VL.S.run, VL.S.skip, VL.M.bind, VL.M.ret, VL.M.of, VL.runF, VL.appF, f_law_of, m_law_of, h2, potNe0, h1, h3, h4, a1.1, a1.2, a2.1, a2.2, h2']
    · rw [List.concat_eq_append] at hc ⊢
      have hl : cs0.length < 16777216 := by simp at hc; omega
      by_cases h3 : many ≤ x
      · refine ⟨x % many, cs0 ++ [x / many], m, t, ?_, by simpa using hc, Int.emod_nonneg _ (by omega), .inl (Int.emod_lt_of_pos _ (by omega))⟩
        simp [VL.mVar, VL.mDat, VL.mOp2, VL.mOp1, VL.look, VL.mCallB, VL.looks, VL.mCons, VL.mTup, VL.mLst, VL.mTest, VL.mNot, VL.mAnd, VL.mOr, VL.mBool, VL.mIf, VL.mAndV, VL.mOrV, VL.mNotV, VL.sRet, VL.sSet, VL.sExpr, VL.sIf, VL.sRetN, VL.sBreak, VL.sCont, VL.sPar2, VL.sPar3, VL.sUnp, VL.mMet, VL.mMet1, VL.mCall, VL.passL, VL.pass1, VL.fAppend, VL.fExtend, VL.fPop, VL.fPopAt, VL.mPotI, VL.mPotPop, VL.mPotApp, VL.sPotSet, VL.mScr, VL.mScrLen, VL.mRgL1, VL.mPotNew, VL.gN, VL.gT, VL.gConsD, VL.gNilD, VL.gGrid, VL.iSeq, VL.iRng1, VL.iRng2, VL.iEnum1, VL.still, VL.iLook, VL.sRaise, VL.mSl, VL.mPart, VL.mCallK, VL.mHeard, VL.vw, VL.vws, VL.tvw, VL.obD, VL.tvz, VL.obZ, VL.fz, VL.fzE, VL.frz, VL.frzs, VL.sto, VL.isTmp, VL.resOf, VL.outOf, VL.ioIx, VL.env0, VL.argsOf, VL.argOf, VL.ioSlot, VL.looked, VL.putO, VL.putL, VL.putB, VL.obOf, VL.intAt, VL.lstOf, VL.seqOf, VL.asInt, VL.asInts, VL.wipeE, VL.back, VL.plain, VL.fAdd, VL.fSub, VL.fMul, VL.fDiv, VL.fMod, VL.fPow, VL.fNeg, VL.fCmp, VL.fIsN, VL.fNotN, VL.fIx, VL.fLen, VL.fAbs, VL.fInt, VL.fList, VL.fTuple, VL.fSl, VL.fRgL, VL.small, VL.sm64, VL.flatR, VL.permL, VL.noM, VL.noMs, VL.noMt, VL.noMo, VL.noMos, VL.notIo, VL.seqD, VL.isN, VL.S.seq, VL.S.run, VL.S.skip, VL.M.bind, VL.M.ret, VL.M.of, VL.runF, VL.appF, f_law_of, m_law_of, h2, potNe0, h3, h2', hm, hl]
      · refine ⟨x % many, cs0, m, t, ?_, by simp at hc; omega, Int.emod_nonneg _ (by omega), .inl (Int.emod_lt_of_pos _ (by omega))⟩
        simp [VL.mVar, VL.mDat, VL.mOp2, VL.mOp1, VL.look, VL.mCallB, VL.looks, VL.mCons, VL.mTup, VL.mLst, VL.mTest, VL.mNot, VL.mAnd, VL.mOr, VL.mBool, VL.mIf, VL.mAndV, VL.mOrV, VL.mNotV, VL.sRet, VL.sSet, VL.sExpr, VL.sIf, VL.sRetN, VL.sBreak, VL.sCont, VL.sPar2, VL.sPar3, VL.sUnp, VL.mMet, VL.mMet1, VL.mCall, VL.passL, VL.pass1, VL.fAppend, VL.fExtend, VL.fPop, VL.fPopAt, VL.mPotI, VL.mPotPop, VL.mPotApp, VL.sPotSet, VL.mScr, VL.mScrLen, VL.mRgL1, VL.mPotNew, VL.gN, VL.gT, VL.gConsD, VL.gNilD, VL.gGrid, VL.iSeq, VL.iRng1, VL.iRng2, VL.iEnum1, VL.still, VL.iLook, VL.sRaise, VL.mSl, VL.mPart, VL.mCallK, VL.mHeard, VL.vw, VL.vws, VL.tvw, VL.obD, VL.tvz, VL.obZ, VL.fz, VL.fzE, VL.frz, VL.frzs, VL.sto, VL.isTmp, VL.resOf, VL.outOf, VL.ioIx, VL.env0, VL.argsOf, VL.argOf, VL.ioSlot, VL.looked, VL.putO, VL.putL, VL.putB, VL.obOf, VL.intAt, VL.lstOf, VL.seqOf, VL.asInt, VL.asInts, VL.wipeE, VL.back, VL.plain, VL.fAdd, VL.fSub, VL.fMul, VL.fDiv, VL.fMod, VL.fPow, VL.fNeg, VL.fCmp, VL.fIsN, VL.fNotN, VL.fIx, VL.fLen, VL.fAbs, VL.fInt, VL.fList, VL.fTuple, VL.fSl, VL.fRgL, VL.small, VL.sm64, VL.flatR, VL.permL, VL.noM, VL.noMs, VL.noMt, VL.noMo, VL.noMos, VL.notIo, VL.seqD, VL.isN, VL.S.seq, VL.S.run, VL.S.skip, VL.M.bind, VL.M.ret, VL.M.of, VL.runF, VL.appF, f_law_of, m_law_of, h2, potNe0, h3, h2']

theorem one_ok (cs : List Int) (m t : Int) (ds : List Dt) (hc : cs.length ≤ 63) (h0 : ds ≠ []) (hm : ds.length < 1073741824) :
    ∃ d cs' m' t', f_law_one [.io (.pot cs m t), .val (.list ds)] = .ok (.val d) (some (.pot cs' m' t')) ∧ cs'.length ≤ 63 ∧ d ∈ ds := by
  have hl : 0 < ds.length := List.length_pos_iff.mpr h0
  obtain ⟨r, cs', m', t', h1, h2, h3, h4⟩ := of_ok cs m t ds.length hc (by omega)
  obtain ⟨k, rfl⟩ := Int.eq_ofNat_of_zero_le h3
  have hk : k < ds.length := by omega
  have hat : L2.atI ds (k : Int) = some ds[k] := atI_nat (List.getElem?_eq_getElem hk)
  refine ⟨ds[k], cs', m', t', ?_, h2, List.getElem_mem hk⟩
  simp [VL.mVar, VL.mDat, VL.mOp2, VL.mOp1, VL.look, VL.mCallB, VL.looks, VL.mCons, VL.mTup, VL.mLst, VL.mTest, VL.mNot, VL.mAnd, VL.mOr, VL.mBool, VL.mIf, VL.mAndV, VL.mOrV, VL.mNotV, VL.sRet, VL.sSet, VL.sExpr, VL.sIf, VL.sRetN, VL.sBreak, VL.sCont, VL.sPar2, VL.sPar3, VL.sUnp, VL.mMet, VL.mMet1, VL.mCall, VL.passL, VL.pass1, VL.fAppend, VL.fExtend, VL.fPop, VL.fPopAt, VL.mPotI, VL.mPotPop, VL.mPotApp, VL.sPotSet, VL.mScr, VL.mScrLen, VL.mRgL1, VL.mPotNew, VL.gN, VL.gT, VL.gConsD, VL.gNilD, VL.gGrid, VL.iSeq, VL.iRng1, VL.iRng2, VL.iEnum1, VL.still, VL.iLook, VL.sRaise, VL.mSl, VL.mPart, VL.mCallK, VL.mHeard, VL.vw, VL.vws, VL.tvw, VL.obD, VL.tvz, VL.obZ, VL.fz, VL.fzE, VL.frz, VL.frzs, VL.sto, VL.isTmp, VL.resOf, VL.outOf, VL.ioIx, VL.env0, VL.argsOf, VL.argOf, VL.ioSlot, VL.looked, VL.putO, VL.putL, VL.putB, VL.obOf, VL.intAt, VL.lstOf, VL.seqOf, VL.asInt, VL.asInts, VL.wipeE, VL.back, VL.plain, VL.fAdd, VL.fSub, VL.fMul, VL.fDiv, VL.fMod, VL.fPow, VL.fNeg, VL.fCmp, VL.fIsN, VL.fNotN, VL.fIx, VL.fLen, VL.fAbs, VL.fInt, VL.fList, VL.fTuple, VL.fSl, VL.fRgL, VL.small, VL.sm64, VL.flatR, VL.permL, VL.noM, VL.noMs, VL.noMt, VL.noMo, VL.noMos, VL.notIo, VL.seqD, VL.isN, VL.S.seq, VL.S.run, VL.S.skip, VL.M.bind, VL.M.ret, VL.M.of, VL.runF, VL.appF, f_law_one, m_law_one, h1, hat]
theorem oneT_ok (cs : List Int) (m t : Int) (ds : List Dt) (hc : cs.length ≤ 63) (h0 : ds ≠ []) (hm : ds.length < 1073741824) :
    ∃ d cs' m' t', f_law_one [.io (.pot cs m t), .val (.tuple ds)] = .ok (.val d) (some (.pot cs' m' t')) ∧ cs'.length ≤ 63 ∧ d ∈ ds := by
  have hl : 0 < ds.length := List.length_pos_iff.mpr h0
  obtain ⟨r, cs', m', t', h1, h2, h3, h4⟩ := of_ok cs m t ds.length hc (by omega)
  obtain ⟨k, rfl⟩ := Int.eq_ofNat_of_zero_le h3
  have hk : k < ds.length := by omega
  have hat : L2.atI ds (k : Int) = some ds[k] := atI_nat (List.getElem?_eq_getElem hk)
  refine ⟨ds[k], cs', m', t', ?_, h2, List.getElem_mem hk⟩
  simp [VL.mVar, VL.mDat, VL.mOp2, VL.mOp1, VL.look, VL.mCallB, VL.looks, VL.mCons, VL.mTup, VL.mLst, VL.mTest, VL.mNot, VL.mAnd, VL.mOr, VL.mBool, VL.mIf, VL.mAndV, VL.mOrV, VL.mNotV, VL.sRet, VL.sSet, VL.sExpr, VL.sIf, VL.sRetN, VL.sBreak, VL.sCont, VL.sPar2, VL.sPar3, VL.sUnp, VL.mMet, VL.mMet1, VL.mCall, VL.passL, VL.pass1, VL.fAppend, VL.fExtend, VL.fPop, VL.fPopAt, VL.mPotI, VL.mPotPop, VL.mPotApp, VL.sPotSet, VL.mScr, VL.mScrLen, VL.mRgL1, VL.mPotNew, VL.gN, VL.gT, VL.gConsD, VL.gNilD, VL.gGrid, VL.iSeq, VL.iRng1, VL.iRng2, VL.iEnum1, VL.still, VL.iLook, VL.sRaise, VL.mSl, VL.mPart, VL.mCallK, VL.mHeard, VL.vw, VL.vws, VL.tvw, VL.obD, VL.tvz, VL.obZ, VL.fz, VL.fzE, VL.frz, VL.frzs, VL.sto, VL.isTmp, VL.resOf, VL.outOf, VL.ioIx, VL.env0, VL.argsOf, VL.argOf, VL.ioSlot, VL.looked, VL.putO, VL.putL, VL.putB, VL.obOf, VL.intAt, VL.lstOf, VL.seqOf, VL.asInt, VL.asInts, VL.wipeE, VL.back, VL.plain, VL.fAdd, VL.fSub, VL.fMul, VL.fDiv, VL.fMod, VL.fPow, VL.fNeg, VL.fCmp, VL.fIsN, VL.fNotN, VL.fIx, VL.fLen, VL.fAbs, VL.fInt, VL.fList, VL.fTuple, VL.fSl, VL.fRgL, VL.small, VL.sm64, VL.flatR, VL.permL, VL.noM, VL.noMs, VL.noMt, VL.noMo, VL.noMos, VL.notIo, VL.seqD, VL.isN, VL.S.seq, VL.S.run, VL.S.skip, VL.M.bind, VL.M.ret, VL.M.of, VL.runF, VL.appF, f_law_one, m_law_one, h1, hat]
/-- a while loop, by what falls -/
theorem while_eq {t : M Bool} {b : S} (I : Nat → En → Prop) (J : En → Prop) (h : ∀ n e, I n e → (t e = .ok false e ∧ J e) ∨ ∃ e1 e2 j, t e = .ok true e1 ∧ b e1 = .nx e2 ∧ j < n ∧ I j e2) : ∀ (n : Nat) (e : En), I n e → ∃ e', sWhile t b e = .nx e' ∧ J e' := by
  intro n
  suffices g : ∀ n e, I n e → ∃ e', itW t b (n + 1) e = some (.nx e') ∧ J e' from fun e he => by
    obtain ⟨e', h1, h2⟩ := g n e he
    exact ⟨e', sWhile_eq h1, h2⟩
  intro n
  induction n using Nat.strongRecOn with
  | ind n ih =>
    intro e he
    rcases h n e he with ⟨h1, h2⟩ | ⟨e1, e2, j, h1, h2, h3, h4⟩
    · exact ⟨e, by unfold itW; rw [h1], h2⟩
    · obtain ⟨e', h5, h6⟩ := ih j h3 e2 h4
      refine ⟨e', ?_, h6⟩
      unfold itW
      rw [h1]
      simp only
      rw [h2]
      exact itW_le h5 n h3
/-- a for loop, by an invariant of the turn -/
theorem for_eq {g : Tg} {b : S} (I : Nat → En → Prop) : ∀ (ds : List Dt) (e : En) (k : Nat), I k e → (∀ i d e, ds[i]? = some d → I (k + i) e → ∃ e1 e2, g d e = some e1 ∧ b e1 = .nx e2 ∧ I (k + i + 1) e2) → ∃ e', itF g b ds e = .nx e' ∧ I (k + ds.length) e'
  | [], e, k, h0, _ => ⟨e, rfl, h0⟩
  | d :: ds, e, k, h0, hs => by
    obtain ⟨e1, e2, h1, h2, h3⟩ := hs 0 d e rfl h0
    obtain ⟨e', h4, h5⟩ := for_eq (g := g) (b := b) I ds e2 (k + 1) h3 fun i d e hi h => by
      have := hs (i + 1) d e (by simpa using hi) (by rw [show k + (i + 1) = k + 1 + i by omega]; exact h)
      rw [show k + (i + 1) + 1 = k + 1 + i + 1 by omega] at this
      exact this
    refine ⟨e', ?_, by rw [List.length_cons, show k + (ds.length + 1) = k + 1 + ds.length by omega]; exact h5⟩
    unfold itF
    rw [h1]
    simp only
    rw [h2]
    exact h4
theorem neNil (ds : List Dt) (h : SeqAt.shaped (.list ds) = true) : fNe (.list ds) (.list []) = some (.val (.bool (!ds.isEmpty))) := by
  have s0 : SeqAt.shaped (.list []) = true := rfl
  simp [fNe, h, s0, eqv_nil]
theorem eqNil (ds : List Dt) (h : SeqAt.shaped (.list ds) = true) : fEq (.list ds) (.list []) = some (.val (.bool ds.isEmpty)) := by
  have s0 : SeqAt.shaped (.list []) = true := rfl
  simp [fEq, h, s0, eqv_nil]
/-- data that is only of numbers, texts, truths, nothing -/
def flatD : Dt → Bool
  | .int _ => true
  | .str x => PyData.strOk x
  | .bool _ => true
  | .none => true
  | _ => false
theorem shaped_flat (ds : List Dt) (h : ∀ d ∈ ds, flatD d = true) : SeqAt.shaped (.list ds) = true := by
  have h1 : PyData.canLayAll0 ds = true ∧ PyData.depthAll ds = 0 := by
    induction ds with
    | nil => exact ⟨rfl, rfl⟩
    | cons d ds ih =>
      obtain ⟨a, b⟩ := ih fun x hx => h x (List.mem_cons_of_mem _ hx)
      have hd := h d List.mem_cons_self
      cases d with
      | str x => exact ⟨by simp [PyData.canLayAll0, PyData.canLay0, a]; exact hd, by simp [PyData.depthAll, PyData.depth, b]⟩
      | int _ => exact ⟨by simp [PyData.canLayAll0, PyData.canLay0, a], by simp [PyData.depthAll, PyData.depth, b]⟩
      | bool _ => exact ⟨by simp [PyData.canLayAll0, PyData.canLay0, a], by simp [PyData.depthAll, PyData.depth, b]⟩
      | none => exact ⟨by simp [PyData.canLayAll0, PyData.canLay0, a], by simp [PyData.depthAll, PyData.depth, b]⟩
      | _ => cases hd
  simp [SeqAt.shaped, PyData.canLay0, PyData.depth, h1.1, h1.2]
theorem seqIx {n k : Nat} (h : k < n) : seqIndex? (k : Int) n = some k := by
  have h0 : ¬ ((k : Int) < 0) := by omega
  unfold seqIndex?
  simp [h0]
  omega
theorem erase_perm {α : Type} : ∀ {l : List α} {k : Nat} (h : k < l.length), ([l[k]] ++ l.eraseIdx k).Perm l
  | a :: l, 0, _ => List.Perm.refl _
  | a :: l, k + 1, h => by
    have hk : k < l.length := by simpa using h
    have ih := erase_perm (l := l) (k := k) hk
    show (l[k] :: a :: l.eraseIdx k).Perm (a :: l)
    exact (List.Perm.swap _ _ _).trans (List.Perm.cons a ih)
end KD


namespace KD
open PySem PySem.Spec L2 VL
open PyProof.Rows hiding St

theorem mixed_step (cs : List Int) (m t : Int) (dd : Dt) (l f : List Dt) (hc : cs.length ≤ 63) (h0 : l ≠ []) (hl : l.length < 1000) (hf : f.length < 1000) :
    ∃ k cs' m' t', ∃ (hk : k < l.length), cs'.length ≤ 63 ∧ b_law_mixed_2 [some (.io (.pot cs m t)), some (.val dd), some (.own (.lst l)), some (.own (.lst f))] = .nx [some (.io (.pot cs' m' t')), some (.val dd), some (.own (.lst (l.eraseIdx k))), some (.own (.lst (f ++ [l[k]])))] := by
  have hpos : 0 < l.length := List.length_pos_iff.mpr h0
  obtain ⟨r, cs', m', t', h1, h2, h3, h4⟩ := of_ok cs m t l.length hc (by omega)
  obtain ⟨k, rfl⟩ := Int.eq_ofNat_of_zero_le h3
  have hk : k < l.length := by omega
  have h5 : l[k]? = some l[k] := List.getElem?_eq_getElem hk
  have b1 : big62 (k : Int) = true := big_nat (by omega)
  have b2 : f.length < 16777216 := by omega
  have s2 := seqIx hk
  refine ⟨k, cs', m', t', hk, h2, ?_⟩
  unfold b_law_mixed_2
  apply y_end
  repeat' (first | (with_reducible assumption) | (with_reducible exact x_dat) | (with_reducible exact x_nil) | (with_reducible exact y_skip) | (with_reducible exact x_retB) | (with_reducible refine x_val ?_; rfl) | (with_reducible refine x_own ?_; rfl) | (with_reducible refine x_io ?_; rfl) | (with_reducible apply x_cons) | (with_reducible apply z_T) | (with_reducible apply z_F) | (with_reducible apply y_seq) | (with_reducible apply y_set) | (with_reducible apply y_expr) | (with_reducible apply y_ret) | (with_reducible apply y_if) | (with_reducible apply x_if) | (with_reducible apply x_and) | (with_reducible apply x_or) | (with_reducible apply x_not) | (with_reducible apply x_test) | (with_reducible apply x_op2) | (with_reducible apply x_op1) | (with_reducible apply x_callB) | (with_reducible apply x_tup) | (with_reducible apply x_lst) | (with_reducible apply x_met) | (with_reducible apply x_call) | (with_reducible apply y_par2) | (with_reducible apply y_par3) | (with_reducible apply y_unp) | (with_reducible apply y_for) | (with_reducible apply x_rng1) | (with_reducible apply x_rng2) | (with_reducible apply x_seq) | (with_reducible apply x_enum) | (with_reducible apply x_still) | (with_reducible apply x_rgL1) | (with_reducible exact h1) | (with_reducible exact f_popAt b1 s2 h5) | (with_reducible exact decide_eq_true (by omega)) | (with_reducible exact decide_eq_false (by omega)) | (with_reducible exact f_append (by omega)) | (with_reducible exact small_le (by omega)) | (with_reducible exact f_rng1 (big_of (by omega) (by omega))) | (exact ⟨.inl rfl, rfl⟩) | (rfl))

theorem mixed_ok (cs : List Int) (m t : Int) (ds : List Dt) (hc : cs.length ≤ 63) (hm : ds.length < 1000) (hf : ∀ d ∈ ds, flatD d = true) :
    ∃ es cs' m' t', f_law_mixed [.io (.pot cs m t), .val (.list ds)] = .ok (.own (.lst es)) (some (.pot cs' m' t')) ∧ cs'.length ≤ 63 ∧ es.Perm ds := by
  have loop : ∀ n e, (∃ l f cs m t, e = [some (.io (.pot cs m t)), some (.val (.list ds)), some (.own (.lst l)), some (.own (.lst f))] ∧ cs.length ≤ 63 ∧ l.length = n ∧ (f ++ l).Perm ds) →
      ∃ e', sWhile t_law_mixed_1 b_law_mixed_2 e = .nx e' ∧ ∃ f cs m t, e' = [some (.io (.pot cs m t)), some (.val (.list ds)), some (.own (.lst [])), some (.own (.lst f))] ∧ cs.length ≤ 63 ∧ f.Perm ds := by
    refine while_eq _ _ ?_
    rintro n e ⟨l, f, cs, m, t, rfl, hc, hn, hp⟩
    have fl : ∀ d ∈ l, flatD d = true := fun d hd => hf d (hp.subset (List.mem_append_right _ hd))
    have hlen := hp.length_eq
    rw [List.length_append] at hlen
    have s1 := neNil l (shaped_flat l fl)
    by_cases h0 : l = []
    · subst h0
      refine .inl ⟨?_, f, cs, m, t, rfl, hc, by simpa using hp⟩
      unfold t_law_mixed_1
      repeat' (first | (with_reducible assumption) | (with_reducible exact x_dat) | (with_reducible exact x_nil) | (with_reducible exact y_skip) | (with_reducible exact x_retB) | (with_reducible refine x_val ?_; rfl) | (with_reducible refine x_own ?_; rfl) | (with_reducible refine x_io ?_; rfl) | (with_reducible apply x_cons) | (with_reducible apply z_T) | (with_reducible apply z_F) | (with_reducible apply y_seq) | (with_reducible apply y_set) | (with_reducible apply y_expr) | (with_reducible apply y_ret) | (with_reducible apply y_if) | (with_reducible apply x_if) | (with_reducible apply x_and) | (with_reducible apply x_or) | (with_reducible apply x_not) | (with_reducible apply x_test) | (with_reducible apply x_op2) | (with_reducible apply x_op1) | (with_reducible apply x_callB) | (with_reducible apply x_tup) | (with_reducible apply x_lst) | (with_reducible apply x_met) | (with_reducible apply x_call) | (with_reducible apply y_par2) | (with_reducible apply y_par3) | (with_reducible apply y_unp) | (with_reducible apply y_for) | (with_reducible apply x_rng1) | (with_reducible apply x_rng2) | (with_reducible apply x_seq) | (with_reducible apply x_enum) | (with_reducible apply x_still) | (with_reducible apply x_rgL1) | (with_reducible exact s1) | (with_reducible exact decide_eq_true (by omega)) | (with_reducible exact decide_eq_false (by omega)) | (with_reducible exact f_append (by omega)) | (with_reducible exact small_le (by omega)) | (with_reducible exact f_rng1 (big_of (by omega) (by omega))) | (exact ⟨.inl rfl, rfl⟩) | (rfl))
    · have s2 : l.isEmpty = false := by simpa using h0
      rw [s2] at s1
      obtain ⟨k, cs', m', t', hk, h1, h2⟩ := mixed_step cs m t (.list ds) l f hc h0 (by omega) (by omega)
      refine .inr ⟨_, _, l.length - 1, ?_, h2, by omega, _, _, _, _, _, rfl, h1, by rw [List.length_eraseIdx, if_pos hk], ?_⟩
      · unfold t_law_mixed_1
        repeat' (first | (with_reducible assumption) | (with_reducible exact x_dat) | (with_reducible exact x_nil) | (with_reducible exact y_skip) | (with_reducible exact x_retB) | (with_reducible refine x_val ?_; rfl) | (with_reducible refine x_own ?_; rfl) | (with_reducible refine x_io ?_; rfl) | (with_reducible apply x_cons) | (with_reducible apply z_T) | (with_reducible apply z_F) | (with_reducible apply y_seq) | (with_reducible apply y_set) | (with_reducible apply y_expr) | (with_reducible apply y_ret) | (with_reducible apply y_if) | (with_reducible apply x_if) | (with_reducible apply x_and) | (with_reducible apply x_or) | (with_reducible apply x_not) | (with_reducible apply x_test) | (with_reducible apply x_op2) | (with_reducible apply x_op1) | (with_reducible apply x_callB) | (with_reducible apply x_tup) | (with_reducible apply x_lst) | (with_reducible apply x_met) | (with_reducible apply x_call) | (with_reducible apply y_par2) | (with_reducible apply y_par3) | (with_reducible apply y_unp) | (with_reducible apply y_for) | (with_reducible apply x_rng1) | (with_reducible apply x_rng2) | (with_reducible apply x_seq) | (with_reducible apply x_enum) | (with_reducible apply x_still) | (with_reducible apply x_rgL1) | (with_reducible exact s1) | (with_reducible exact decide_eq_true (by omega)) | (with_reducible exact decide_eq_false (by omega)) | (with_reducible exact f_append (by omega)) | (with_reducible exact small_le (by omega)) | (with_reducible exact f_rng1 (big_of (by omega) (by omega))) | (exact ⟨.inl rfl, rfl⟩) | (rfl))
      · refine List.Perm.trans ?_ hp
        rw [List.append_assoc]
        exact List.Perm.append_left f (erase_perm hk)
  obtain ⟨e', h1, f, cs', m', t', rfl, h2, h3⟩ := loop ds.length _ ⟨ds, [], cs, m, t, rfl, hc, rfl, List.Perm.refl _⟩
  refine ⟨f, cs', m', t', ?_, h2, h3⟩
  unfold f_law_mixed
  apply fn_rt rfl
  · unfold m_law_mixed
    repeat' (first | (with_reducible assumption) | (with_reducible exact x_dat) | (with_reducible exact x_nil) | (with_reducible exact y_skip) | (with_reducible exact x_retB) | (with_reducible refine x_val ?_; rfl) | (with_reducible refine x_own ?_; rfl) | (with_reducible refine x_io ?_; rfl) | (with_reducible apply x_cons) | (with_reducible apply z_T) | (with_reducible apply z_F) | (with_reducible apply y_seq) | (with_reducible apply y_set) | (with_reducible apply y_expr) | (with_reducible apply y_ret) | (with_reducible apply y_if) | (with_reducible apply x_if) | (with_reducible apply x_and) | (with_reducible apply x_or) | (with_reducible apply x_not) | (with_reducible apply x_test) | (with_reducible apply x_op2) | (with_reducible apply x_op1) | (with_reducible apply x_callB) | (with_reducible apply x_tup) | (with_reducible apply x_lst) | (with_reducible apply x_met) | (with_reducible apply x_call) | (with_reducible apply y_par2) | (with_reducible apply y_par3) | (with_reducible apply y_unp) | (with_reducible apply y_for) | (with_reducible apply x_rng1) | (with_reducible apply x_rng2) | (with_reducible apply x_seq) | (with_reducible apply x_enum) | (with_reducible apply x_still) | (with_reducible apply x_rgL1) | (exact h1) | (with_reducible exact decide_eq_true (by omega)) | (with_reducible exact decide_eq_false (by omega)) | (with_reducible exact f_append (by omega)) | (with_reducible exact small_le (by omega)) | (with_reducible exact f_rng1 (big_of (by omega) (by omega))) | (exact ⟨.inl rfl, rfl⟩) | (rfl))
  · rfl
  · rfl
end KD


namespace KD
open PySem PySem.Spec L2 VL
open PyProof.Rows hiding St
/-- a comprehension, by an invariant of the turn -/
theorem itL_eq {g : Tg} {t : M Bool} {m : M R} {vs : List Nat} {all : List Dt} (I : Nat → List Dt → En → Prop) : ∀ (ds acc : List Dt) (e : En) (k : Nat), I k acc e →
    (∀ i d acc e, ds[i]? = some d → I (k + i) acc e → ∃ e1, g d (wipeE e vs) = some e1 ∧ ((∃ e2, t e1 = .ok false e2 ∧ I (k + i + 1) acc e2) ∨ ∃ e2 r e3 y e4, t e1 = .ok true e2 ∧ m e2 = .ok r e3 ∧ fz e3 r = some (y, e4) ∧ acc.length < 1000000 ∧ I (k + i + 1) (acc ++ [y]) e4)) →
    ∃ acc' e', itL g t m vs none all ds acc e = .ok acc' e' ∧ I (k + ds.length) acc' e'
  | [], acc, e, k, h0, _ => ⟨acc, e, by unfold itL; rw [if_pos (show asWas none all e = true from rfl)], h0⟩
  | d :: ds, acc, e, k, h0, hs => by
    obtain ⟨e1, h1, h2⟩ := hs 0 d acc e rfl h0
    have go : ∀ acc e, I (k + 1) acc e → ∃ acc' e', itL g t m vs none all ds acc e = .ok acc' e' ∧ I (k + (ds.length + 1)) acc' e' := fun acc e he => by
      obtain ⟨a, b, h3, h4⟩ := itL_eq (g := g) (t := t) (m := m) (vs := vs) (all := all) I ds acc e (k + 1) he fun i d acc e hi h => by
        have := hs (i + 1) d acc e (by simpa using hi) (by rw [show k + (i + 1) = k + 1 + i by omega]; exact h)
        rw [show k + (i + 1) + 1 = k + 1 + i + 1 by omega] at this
        exact this
      exact ⟨a, b, h3, by rw [show k + (ds.length + 1) = k + 1 + ds.length by omega]; exact h4⟩
    unfold itL
    rw [if_pos (show asWas none all e = true from rfl), h1]
    simp only
    rcases h2 with ⟨e2, h3, h4⟩ | ⟨e2, r, e3, y, e4, h3, h4, h5, h6, h7⟩
    · rw [h3]
      exact go acc e2 h4
    · rw [h3]
      simp only
      rw [h4]
      simp only
      rw [h5]
      simp only
      rw [if_pos (show small (acc.length + 1) = true from small_le (by omega))]
      exact go _ e4 h7
theorem x_lc {mi : M It2} {g : Tg} {t : M Bool} {m : M R} {vs : List Nat} {e e1 e2 : En} {ds acc : List Dt} (hi : mi e = .ok (ds, none) e1) (hp : (vs.all fun v => VL.plain e1 v) = true) (hl : itL g t m vs none ds ds [] e1 = .ok acc e2) : mLc mi g t m vs e = .ok (.tmp (.own (.lst acc))) (back e1 e2 vs) := by
  unfold mLc
  refine x_bind hi ?_
  rw [if_pos ⟨hp, fun i z => nomatch z⟩]
  simp only
  rw [hl]
def intLike : Dt → Bool
  | .int _ => true
  | _ => false
theorem flat_int {d : Dt} (h : intLike d = true) : flatD d = true := by cases d <;> first | rfl | cases h
theorem notIn_ok {a : Dt} {ks : List Dt} (ha : flatD a = true) (hk : ∀ d ∈ ks, flatD d = true) : fNotIn a (.list ks) = some (.val (.bool (!isIn a ks))) := by
  have s1 := shaped_flat ks hk
  have s2 : SeqAt.shaped a = true := by
    have := shaped_flat [a] (fun d hd => by cases List.mem_singleton.mp hd; exact ha)
    simp [SeqAt.shaped, PyData.canLay0, PyData.canLayAll0, PyData.depth, PyData.depthAll] at this ⊢
    exact ⟨this.1, by omega⟩
  simp [fNotIn, s1, s2]
theorem lastIx {ks : List Dt} (h : ks ≠ []) : fIx (.list ks) (.int (-1)) = some (.val (ks.getLast h)) := by
  have : L2.atI ks (-1) = some (ks.getLast h) := by
    obtain ⟨ks', x, rfl⟩ : ∃ ks' x, ks = ks' ++ [x] := ⟨ks.dropLast, ks.getLast h, (List.dropLast_concat_getLast h).symm⟩
    rw [show (ks' ++ [x]).getLast h = x by simp]
    exact atI_last _ _
  show (L2.atI ks (-1)).map _ = _
  rw [this]
  rfl
/-- the test of the rooms that are free -/
theorem way_test (pot : Ob) (ds : List Dt) (s : Dt) (b : Bool) (f ks : List Dt) (x6 : Option Tv) (a : Int) (hk : ∀ d ∈ ks, intLike d = true) :
    ∃ k : Bool, (mAnd (mTest (mOp2 fNotIn (mVar 7) (mVar 5))) (mNot (mAnd (mTest (mVar 3)) (mAnd (mTest (mOp2 fNe (mVar 5) (mLst (M.ret [])))) (mTest (mOp2 fLt (mVar 7) (mOp2 fIx (mVar 5) (mOp1 fNeg (mDat (.int 1)))))))))) [some (.io pot), some (.val (.list ds)), some (.val s), some (.val (.bool b)), some (.own (.lst f)), some (.own (.lst ks)), x6, some (.val (.int a))] =
      .ok k [some (.io pot), some (.val (.list ds)), some (.val s), some (.val (.bool b)), some (.own (.lst f)), some (.own (.lst ks)), x6, some (.val (.int a))] ∧ (ks = [] → k = true) := by
  have fk : ∀ d ∈ ks, flatD d = true := fun d hd => flat_int (hk d hd)
  have h1 := notIn_ok (a := .int a) rfl fk
  have h2 := neNil ks (shaped_flat ks fk)
  by_cases h0 : ks = []
  · subst h0
    refine ⟨true, ?_, fun _ => rfl⟩
    cases b
    · apply x_end
      · repeat' (first | (with_reducible assumption) | (with_reducible exact x_dat) | (with_reducible exact x_nil) | (with_reducible exact y_skip) | (with_reducible exact x_retB) | (with_reducible refine x_val ?_; rfl) | (with_reducible refine x_own ?_; rfl) | (with_reducible refine x_io ?_; rfl) | (with_reducible apply x_cons) | (with_reducible apply z_T) | (with_reducible apply z_F) | (with_reducible apply y_seq) | (with_reducible apply y_set) | (with_reducible apply y_expr) | (with_reducible apply y_ret) | (with_reducible apply y_if) | (with_reducible apply x_if) | (with_reducible apply x_and) | (with_reducible apply x_or) | (with_reducible apply x_not) | (with_reducible apply x_test) | (with_reducible apply x_op2) | (with_reducible apply x_op1) | (with_reducible apply x_callB) | (with_reducible apply x_tup) | (with_reducible apply x_lst) | (with_reducible apply x_met) | (with_reducible apply x_call) | (with_reducible apply y_par2) | (with_reducible apply y_par3) | (with_reducible apply y_unp) | (with_reducible apply y_for) | (with_reducible apply x_rng1) | (with_reducible apply x_rng2) | (with_reducible apply x_seq) | (with_reducible apply x_enum) | (with_reducible apply x_still) | (with_reducible apply x_rgL1) | (with_reducible exact h1) | (with_reducible exact h2) | (with_reducible exact decide_eq_true (by omega)) | (with_reducible exact decide_eq_false (by omega)) | (with_reducible exact f_append (by omega)) | (with_reducible exact small_le (by omega)) | (with_reducible exact f_rng1 (big_of (by omega) (by omega))) | (exact ⟨.inl rfl, rfl⟩) | (exact (rfl : (_ : Bool) = true)) | (exact (rfl : (_ : Bool) = false)) | (rfl))
      · rfl
      · rfl
    · apply x_end
      · repeat' (first | (with_reducible assumption) | (with_reducible exact x_dat) | (with_reducible exact x_nil) | (with_reducible exact y_skip) | (with_reducible exact x_retB) | (with_reducible refine x_val ?_; rfl) | (with_reducible refine x_own ?_; rfl) | (with_reducible refine x_io ?_; rfl) | (with_reducible apply x_cons) | (with_reducible apply z_T) | (with_reducible apply z_F) | (with_reducible apply y_seq) | (with_reducible apply y_set) | (with_reducible apply y_expr) | (with_reducible apply y_ret) | (with_reducible apply y_if) | (with_reducible apply x_if) | (with_reducible apply x_and) | (with_reducible apply x_or) | (with_reducible apply x_not) | (with_reducible apply x_test) | (with_reducible apply x_op2) | (with_reducible apply x_op1) | (with_reducible apply x_callB) | (with_reducible apply x_tup) | (with_reducible apply x_lst) | (with_reducible apply x_met) | (with_reducible apply x_call) | (with_reducible apply y_par2) | (with_reducible apply y_par3) | (with_reducible apply y_unp) | (with_reducible apply y_for) | (with_reducible apply x_rng1) | (with_reducible apply x_rng2) | (with_reducible apply x_seq) | (with_reducible apply x_enum) | (with_reducible apply x_still) | (with_reducible apply x_rgL1) | (with_reducible exact h1) | (with_reducible exact h2) | (with_reducible exact decide_eq_true (by omega)) | (with_reducible exact decide_eq_false (by omega)) | (with_reducible exact f_append (by omega)) | (with_reducible exact small_le (by omega)) | (with_reducible exact f_rng1 (big_of (by omega) (by omega))) | (exact ⟨.inl rfl, rfl⟩) | (exact (rfl : (_ : Bool) = true)) | (exact (rfl : (_ : Bool) = false)) | (rfl))
      · rfl
      · rfl
  · have e2 : ks.isEmpty = false := by simpa using h0
    rw [e2] at h2
    cases hin : isIn (.int a) ks with
    | true =>
      rw [hin] at h1
      refine ⟨false, ?_, fun z => absurd z h0⟩
      apply x_end
      · repeat' (first | (with_reducible assumption) | (with_reducible exact x_dat) | (with_reducible exact x_nil) | (with_reducible exact y_skip) | (with_reducible exact x_retB) | (with_reducible refine x_val ?_; rfl) | (with_reducible refine x_own ?_; rfl) | (with_reducible refine x_io ?_; rfl) | (with_reducible apply x_cons) | (with_reducible apply z_T) | (with_reducible apply z_F) | (with_reducible apply y_seq) | (with_reducible apply y_set) | (with_reducible apply y_expr) | (with_reducible apply y_ret) | (with_reducible apply y_if) | (with_reducible apply x_if) | (with_reducible apply x_and) | (with_reducible apply x_or) | (with_reducible apply x_not) | (with_reducible apply x_test) | (with_reducible apply x_op2) | (with_reducible apply x_op1) | (with_reducible apply x_callB) | (with_reducible apply x_tup) | (with_reducible apply x_lst) | (with_reducible apply x_met) | (with_reducible apply x_call) | (with_reducible apply y_par2) | (with_reducible apply y_par3) | (with_reducible apply y_unp) | (with_reducible apply y_for) | (with_reducible apply x_rng1) | (with_reducible apply x_rng2) | (with_reducible apply x_seq) | (with_reducible apply x_enum) | (with_reducible apply x_still) | (with_reducible apply x_rgL1) | (with_reducible exact h1) | (with_reducible exact h2) | (with_reducible exact decide_eq_true (by omega)) | (with_reducible exact decide_eq_false (by omega)) | (with_reducible exact f_append (by omega)) | (with_reducible exact small_le (by omega)) | (with_reducible exact f_rng1 (big_of (by omega) (by omega))) | (exact ⟨.inl rfl, rfl⟩) | (exact (rfl : (_ : Bool) = true)) | (exact (rfl : (_ : Bool) = false)) | (rfl))
      · rfl
      · rfl
    | false =>
      rw [hin] at h1
      cases b with
      | false =>
        refine ⟨true, ?_, fun z => absurd z h0⟩
        apply x_end
        · repeat' (first | (with_reducible assumption) | (with_reducible exact x_dat) | (with_reducible exact x_nil) | (with_reducible exact y_skip) | (with_reducible exact x_retB) | (with_reducible refine x_val ?_; rfl) | (with_reducible refine x_own ?_; rfl) | (with_reducible refine x_io ?_; rfl) | (with_reducible apply x_cons) | (with_reducible apply z_T) | (with_reducible apply z_F) | (with_reducible apply y_seq) | (with_reducible apply y_set) | (with_reducible apply y_expr) | (with_reducible apply y_ret) | (with_reducible apply y_if) | (with_reducible apply x_if) | (with_reducible apply x_and) | (with_reducible apply x_or) | (with_reducible apply x_not) | (with_reducible apply x_test) | (with_reducible apply x_op2) | (with_reducible apply x_op1) | (with_reducible apply x_callB) | (with_reducible apply x_tup) | (with_reducible apply x_lst) | (with_reducible apply x_met) | (with_reducible apply x_call) | (with_reducible apply y_par2) | (with_reducible apply y_par3) | (with_reducible apply y_unp) | (with_reducible apply y_for) | (with_reducible apply x_rng1) | (with_reducible apply x_rng2) | (with_reducible apply x_seq) | (with_reducible apply x_enum) | (with_reducible apply x_still) | (with_reducible apply x_rgL1) | (with_reducible exact h1) | (with_reducible exact h2) | (with_reducible exact decide_eq_true (by omega)) | (with_reducible exact decide_eq_false (by omega)) | (with_reducible exact f_append (by omega)) | (with_reducible exact small_le (by omega)) | (with_reducible exact f_rng1 (big_of (by omega) (by omega))) | (exact ⟨.inl rfl, rfl⟩) | (exact (rfl : (_ : Bool) = true)) | (exact (rfl : (_ : Bool) = false)) | (rfl))
        · rfl
        · rfl
      | true =>
        have h3 := lastIx h0
        obtain ⟨l, hl⟩ : ∃ l, ks.getLast h0 = .int l := by
          have := hk _ (List.getLast_mem h0)
          cases q : ks.getLast h0 <;> rw [q] at this <;> first | exact ⟨_, rfl⟩ | cases this
        rw [hl] at h3
        refine ⟨!decide (a < l), ?_, fun z => absurd z h0⟩
        apply x_end
        · repeat' (first | (with_reducible assumption) | (with_reducible exact x_dat) | (with_reducible exact x_nil) | (with_reducible exact y_skip) | (with_reducible exact x_retB) | (with_reducible refine x_val ?_; rfl) | (with_reducible refine x_own ?_; rfl) | (with_reducible refine x_io ?_; rfl) | (with_reducible apply x_cons) | (with_reducible apply z_T) | (with_reducible apply z_F) | (with_reducible apply y_seq) | (with_reducible apply y_set) | (with_reducible apply y_expr) | (with_reducible apply y_ret) | (with_reducible apply y_if) | (with_reducible apply x_if) | (with_reducible apply x_and) | (with_reducible apply x_or) | (with_reducible apply x_not) | (with_reducible apply x_test) | (with_reducible apply x_op2) | (with_reducible apply x_op1) | (with_reducible apply x_callB) | (with_reducible apply x_tup) | (with_reducible apply x_lst) | (with_reducible apply x_met) | (with_reducible apply x_call) | (with_reducible apply y_par2) | (with_reducible apply y_par3) | (with_reducible apply y_unp) | (with_reducible apply y_for) | (with_reducible apply x_rng1) | (with_reducible apply x_rng2) | (with_reducible apply x_seq) | (with_reducible apply x_enum) | (with_reducible apply x_still) | (with_reducible apply x_rgL1) | (with_reducible exact h1) | (with_reducible exact h2) | (with_reducible exact h3) | (with_reducible exact decide_eq_true (by omega)) | (with_reducible exact decide_eq_false (by omega)) | (with_reducible exact f_append (by omega)) | (with_reducible exact small_le (by omega)) | (with_reducible exact f_rng1 (big_of (by omega) (by omega))) | (exact ⟨.inl rfl, rfl⟩) | (exact (rfl : (_ : Bool) = true)) | (exact (rfl : (_ : Bool) = false)) | (rfl))
        · rfl
        · rfl
end KD


namespace KD
open PySem PySem.Spec L2 VL
open PyProof.Rows hiding St
abbrev wayE (pot : Ob) (ds : List Dt) (s : Dt) (b : Bool) (f ks : List Dt) (x6 x7 : Option Tv) : En := [some (.io pot), some (.val (.list ds)), some (.val s), some (.val (.bool b)), some (.own (.lst f)), some (.own (.lst ks)), x6, x7]
theorem way_free (pot : Ob) (ds : List Dt) (s : Dt) (b : Bool) (f ks : List Dt) (x6 : Option Tv) (hd : ∀ d ∈ ds, intLike d = true) (hk : ∀ d ∈ ks, intLike d = true) (hl : ds.length < 1000) :
    ∃ fr, l_law_way_1 (wayE pot ds s b f ks x6 none) = .ok (.tmp (.own (.lst fr))) (wayE pot ds s b f ks x6 none) ∧ (∀ d ∈ fr, d ∈ ds) ∧ fr.length ≤ ds.length ∧ (ks = [] → fr = ds) := by
  obtain ⟨acc, e', h1, x7, rfl, h2, h3, h4⟩ := itL_eq (g := gN 7) (t := mAnd (mTest (mOp2 fNotIn (mVar 7) (mVar 5))) (mNot (mAnd (mTest (mVar 3)) (mAnd (mTest (mOp2 fNe (mVar 5) (mLst (M.ret [])))) (mTest (mOp2 fLt (mVar 7) (mOp2 fIx (mVar 5) (mOp1 fNeg (mDat (.int 1)))))))))) (m := mVar 7) (vs := [7]) (all := ds)
    (fun i acc e => ∃ x7, e = wayE pot ds s b f ks x6 x7 ∧ (∀ d ∈ acc, d ∈ ds) ∧ acc.length ≤ i ∧ (ks = [] → acc = ds.take i)) ds [] (wayE pot ds s b f ks x6 none) 0 ⟨none, rfl, (fun d h => nomatch h), Nat.le_refl _, fun _ => rfl⟩ (by
      rintro i d acc e hi ⟨x7, rfl, h1, h2, h3⟩
      rw [Nat.zero_add] at h2 h3 ⊢
      have hm : d ∈ ds := List.mem_of_getElem? hi
      have hlt : i < ds.length := (List.getElem?_eq_some_iff.mp hi).1
      have hd' := hd d hm
      cases d with
      | int a =>
        obtain ⟨k, h4, h5⟩ := way_test pot ds s b f ks x6 a hk
        refine ⟨_, rfl, ?_⟩
        cases k with
        | false => exact .inl ⟨_, h4, _, rfl, h1, by omega, fun z => absurd (h5 z) Bool.false_ne_true⟩
        | true =>
          refine .inr ⟨_, _, _, _, _, h4, rfl, rfl, by omega, _, rfl, fun d hd => ?_, by rw [List.length_append, List.length_singleton]; omega, fun z => ?_⟩
          · rcases List.mem_append.mp hd with q | q
            · exact h1 d q
            · rw [List.mem_singleton.mp q]; exact hm
          · rw [h3 z, List.take_add_one, hi]
            rfl
      | _ => cases hd')
  refine ⟨acc, ?_, h2, by simpa using h3, fun z => by rw [h4 z]; simp⟩
  exact x_lc (mi := still (iSeq (mVar 1))) (e1 := wayE pot ds s b f ks x6 none) (x_still (x_seq (x_val rfl) rfl rfl)) rfl h1
theorem lastSnoc (ks : List Dt) (r : Dt) : fIx (.list (ks ++ [r])) (.int (-1)) = some (.val r) := by
  have h := lastIx (ks := ks ++ [r]) (by simp)
  rw [h]
  simp
/-- a step of a way -/
def stepLike (ds : List Dt) (d : Dt) : Prop := ∃ r ∈ ds, d = .tuple [.str ("in" : Str), r] ∨ d = .tuple [.str ("out" : Str), r]
theorem way_step (cs : List Int) (m t : Int) (ds : List Dt) (s : Dt) (b : Bool) (f ks : List Dt) (x6 : Option Tv) (hc : cs.length ≤ 63) (h0 : ds ≠ []) (hd : ∀ d ∈ ds, intLike d = true) (hk : ∀ d ∈ ks, d ∈ ds) (hl : ds.length < 1000) (hfl : f.length < 1000) (hkl : ks.length < 1000) :
    ∃ cs' m' t' x6' r, cs'.length ≤ 63 ∧ r ∈ ds ∧
      (b_law_way_3 (wayE (.pot cs m t) ds s b f ks x6 none) = .nx (wayE (.pot cs' m' t') ds s b (f ++ [.tuple [.str ("in" : Str), r]]) (ks ++ [r]) x6' none) ∨
       ∃ h : ks ≠ [], b_law_way_3 (wayE (.pot cs m t) ds s b f ks x6 none) = .nx (wayE (.pot cs' m' t') ds s b (f ++ [.tuple [.str ("out" : Str), r]]) ks.dropLast x6' none)) := by
  have ik : ∀ d ∈ ks, intLike d = true := fun d h => hd d (hk d h)
  have fk : ∀ d ∈ ks, flatD d = true := fun d h => flat_int (ik d h)
  obtain ⟨fr, h1, h2, h3, h4⟩ := way_free (.pot cs m t) ds s b f ks x6 hd ik hl
  have ff : ∀ d ∈ fr, flatD d = true := fun d h => flat_int (hd d (h2 d h))
  have e1 := eqNil ks (shaped_flat ks fk)
  have e2 := neNil fr (shaped_flat fr ff)
  by_cases z : ks = []
  · subst z
    obtain ⟨r, cs', m', t', g1, g2, g3⟩ := one_ok cs m t fr hc (by rw [h4 rfl]; exact h0) (by omega)
    have g4 := lastSnoc [] r
    refine ⟨cs', m', t', some (.val (.list fr)), r, g2, h2 r g3, .inl ?_⟩
    unfold b_law_way_3
    apply y_end
    · repeat' (first | (with_reducible assumption) | (with_reducible exact x_dat) | (with_reducible exact x_nil) | (with_reducible exact y_skip) | (with_reducible exact x_retB) | (with_reducible refine x_val ?_; rfl) | (with_reducible refine x_own ?_; rfl) | (with_reducible refine x_io ?_; rfl) | (with_reducible apply x_cons) | (with_reducible apply z_T) | (with_reducible apply z_F) | (with_reducible apply y_seq) | (with_reducible apply y_set) | (with_reducible apply y_expr) | (with_reducible apply y_ret) | (with_reducible apply y_if) | (with_reducible apply x_if) | (with_reducible apply x_and) | (with_reducible apply x_or) | (with_reducible apply x_not) | (with_reducible apply x_test) | (with_reducible apply x_op2) | (with_reducible apply x_op1) | (with_reducible apply x_callB) | (with_reducible apply x_tup) | (with_reducible apply x_lst) | (with_reducible apply x_met) | (with_reducible apply x_call) | (with_reducible apply y_par2) | (with_reducible apply y_par3) | (with_reducible apply y_unp) | (with_reducible apply y_for) | (with_reducible apply x_rng1) | (with_reducible apply x_rng2) | (with_reducible apply x_seq) | (with_reducible apply x_enum) | (with_reducible apply x_still) | (with_reducible apply x_rgL1) | (with_reducible exact h1) | (with_reducible exact e1) | (with_reducible exact g1) | (with_reducible exact g4) | (with_reducible exact decide_eq_true (by omega)) | (with_reducible exact decide_eq_false (by omega)) | (with_reducible exact f_append (by omega)) | (with_reducible exact small_le (by omega)) | (with_reducible exact f_rng1 (big_of (by omega) (by omega))) | (exact ⟨.inl rfl, rfl⟩) | (exact (rfl : (_ : Bool) = true)) | (exact (rfl : (_ : Bool) = false)) | (rfl))
    · rfl
  · have n1 : ks.isEmpty = false := by simpa using z
    rw [n1] at e1
    have hlast : fPop ks [] = some (ks.dropLast, ks.getLast z) := by
      unfold fPop
      rw [show ks[ks.length - 1]? = some (ks.getLast z) by rw [← List.getLast?_eq_getElem?, List.getLast?_eq_getLast z]]
      rfl
    have rin : ks.getLast z ∈ ds := hk _ (List.getLast_mem z)
    cases hfr : fr.isEmpty with
    | true =>
      rw [hfr] at e2
      refine ⟨cs, m, t, some (.own (.lst fr)), ks.getLast z, hc, rin, .inr ⟨z, ?_⟩⟩
      unfold b_law_way_3
      apply y_end
      · repeat' (first | (with_reducible assumption) | (with_reducible exact x_dat) | (with_reducible exact x_nil) | (with_reducible exact y_skip) | (with_reducible exact x_retB) | (with_reducible refine x_val ?_; rfl) | (with_reducible refine x_own ?_; rfl) | (with_reducible refine x_io ?_; rfl) | (with_reducible apply x_cons) | (with_reducible apply z_T) | (with_reducible apply z_F) | (with_reducible apply y_seq) | (with_reducible apply y_set) | (with_reducible apply y_expr) | (with_reducible apply y_ret) | (with_reducible apply y_if) | (with_reducible apply x_if) | (with_reducible apply x_and) | (with_reducible apply x_or) | (with_reducible apply x_not) | (with_reducible apply x_test) | (with_reducible apply x_op2) | (with_reducible apply x_op1) | (with_reducible apply x_callB) | (with_reducible apply x_tup) | (with_reducible apply x_lst) | (with_reducible apply x_met) | (with_reducible apply x_call) | (with_reducible apply y_par2) | (with_reducible apply y_par3) | (with_reducible apply y_unp) | (with_reducible apply y_for) | (with_reducible apply x_rng1) | (with_reducible apply x_rng2) | (with_reducible apply x_seq) | (with_reducible apply x_enum) | (with_reducible apply x_still) | (with_reducible apply x_rgL1) | (with_reducible exact h1) | (with_reducible exact e1) | (with_reducible exact e2) | (with_reducible exact hlast) | (with_reducible exact decide_eq_true (by omega)) | (with_reducible exact decide_eq_false (by omega)) | (with_reducible exact f_append (by omega)) | (with_reducible exact small_le (by omega)) | (with_reducible exact f_rng1 (big_of (by omega) (by omega))) | (exact ⟨.inl rfl, rfl⟩) | (exact (rfl : (_ : Bool) = true)) | (exact (rfl : (_ : Bool) = false)) | (rfl))
      · rfl
    | false =>
      rw [hfr] at e2
      have hfn : fr ≠ [] := fun q => by rw [q] at hfr; cases hfr
      obtain ⟨r, cs1, m1, t1, g1, g2, g3, g4⟩ := of_ok cs m t 5 hc (by omega)
      by_cases h3' : r < 3
      · obtain ⟨r', cs', m', t', g5, g6, g7⟩ := one_ok cs1 m1 t1 fr g2 hfn (by omega)
        have g8 := lastSnoc ks r'
        refine ⟨cs', m', t', some (.val (.list fr)), r', g6, h2 r' g7, .inl ?_⟩
        unfold b_law_way_3
        apply y_end
        · repeat' (first | (with_reducible assumption) | (with_reducible exact x_dat) | (with_reducible exact x_nil) | (with_reducible exact y_skip) | (with_reducible exact x_retB) | (with_reducible refine x_val ?_; rfl) | (with_reducible refine x_own ?_; rfl) | (with_reducible refine x_io ?_; rfl) | (with_reducible apply x_cons) | (with_reducible apply z_T) | (with_reducible apply z_F) | (with_reducible apply y_seq) | (with_reducible apply y_set) | (with_reducible apply y_expr) | (with_reducible apply y_ret) | (with_reducible apply y_if) | (with_reducible apply x_if) | (with_reducible apply x_and) | (with_reducible apply x_or) | (with_reducible apply x_not) | (with_reducible apply x_test) | (with_reducible apply x_op2) | (with_reducible apply x_op1) | (with_reducible apply x_callB) | (with_reducible apply x_tup) | (with_reducible apply x_lst) | (with_reducible apply x_met) | (with_reducible apply x_call) | (with_reducible apply y_par2) | (with_reducible apply y_par3) | (with_reducible apply y_unp) | (with_reducible apply y_for) | (with_reducible apply x_rng1) | (with_reducible apply x_rng2) | (with_reducible apply x_seq) | (with_reducible apply x_enum) | (with_reducible apply x_still) | (with_reducible apply x_rgL1) | (with_reducible exact h1) | (with_reducible exact e1) | (with_reducible exact e2) | (with_reducible exact g1) | (with_reducible exact g5) | (with_reducible exact g8) | (with_reducible exact decide_eq_true (by omega)) | (with_reducible exact decide_eq_false (by omega)) | (with_reducible exact f_append (by omega)) | (with_reducible exact small_le (by omega)) | (with_reducible exact f_rng1 (big_of (by omega) (by omega))) | (exact ⟨.inl rfl, rfl⟩) | (exact (rfl : (_ : Bool) = true)) | (exact (rfl : (_ : Bool) = false)) | (rfl))
        · rfl
      · refine ⟨cs1, m1, t1, some (.own (.lst fr)), ks.getLast z, g2, rin, .inr ⟨z, ?_⟩⟩
        unfold b_law_way_3
        apply y_end
        · repeat' (first | (with_reducible assumption) | (with_reducible exact x_dat) | (with_reducible exact x_nil) | (with_reducible exact y_skip) | (with_reducible exact x_retB) | (with_reducible refine x_val ?_; rfl) | (with_reducible refine x_own ?_; rfl) | (with_reducible refine x_io ?_; rfl) | (with_reducible apply x_cons) | (with_reducible apply z_T) | (with_reducible apply z_F) | (with_reducible apply y_seq) | (with_reducible apply y_set) | (with_reducible apply y_expr) | (with_reducible apply y_ret) | (with_reducible apply y_if) | (with_reducible apply x_if) | (with_reducible apply x_and) | (with_reducible apply x_or) | (with_reducible apply x_not) | (with_reducible apply x_test) | (with_reducible apply x_op2) | (with_reducible apply x_op1) | (with_reducible apply x_callB) | (with_reducible apply x_tup) | (with_reducible apply x_lst) | (with_reducible apply x_met) | (with_reducible apply x_call) | (with_reducible apply y_par2) | (with_reducible apply y_par3) | (with_reducible apply y_unp) | (with_reducible apply y_for) | (with_reducible apply x_rng1) | (with_reducible apply x_rng2) | (with_reducible apply x_seq) | (with_reducible apply x_enum) | (with_reducible apply x_still) | (with_reducible apply x_rgL1) | (with_reducible exact h1) | (with_reducible exact e1) | (with_reducible exact e2) | (with_reducible exact g1) | (with_reducible exact hlast) | (with_reducible exact decide_eq_true (by omega)) | (with_reducible exact decide_eq_false (by omega)) | (with_reducible exact f_append (by omega)) | (with_reducible exact small_le (by omega)) | (with_reducible exact f_rng1 (big_of (by omega) (by omega))) | (exact ⟨.inl rfl, rfl⟩) | (exact (rfl : (_ : Bool) = true)) | (exact (rfl : (_ : Bool) = false)) | (rfl))
        · rfl

theorem way_ok (cs : List Int) (m t : Int) (ds : List Dt) (n : Nat) (b : Bool) (hc : cs.length ≤ 63) (h0 : ds ≠ []) (hd : ∀ d ∈ ds, intLike d = true) (hl : ds.length < 1000) (hn : n ≤ 900) :
    ∃ ts cs' m' t', f_law_way [.io (.pot cs m t), .val (.list ds), .val (.int n), .val (.bool b)] = .ok (.val (.tuple ts)) (some (.pot cs' m' t')) ∧ cs'.length ≤ 63 ∧ (∀ x ∈ ts, stepLike ds x) ∧ ts.length ≤ n + 1 := by
  have loop1 : ∀ k e, (∃ cs m t f ks x6, e = wayE (.pot cs m t) ds (.int n) b f ks x6 none ∧ cs.length ≤ 63 ∧ (∀ x ∈ f, stepLike ds x) ∧ (∀ d ∈ ks, d ∈ ds) ∧ f.length + ks.length ≤ n + 1 ∧ k = 2 * (n - (f.length + ks.length)) + ks.length) →
      ∃ e', sWhile t_law_way_2 b_law_way_3 e = .nx e' ∧ ∃ cs m t f ks x6, e' = wayE (.pot cs m t) ds (.int n) b f ks x6 none ∧ cs.length ≤ 63 ∧ (∀ x ∈ f, stepLike ds x) ∧ (∀ d ∈ ks, d ∈ ds) ∧ f.length + ks.length ≤ n + 1 := by
    refine while_eq _ _ ?_
    rintro k e ⟨cs, m, t, f, ks, x6, rfl, hc, hf, hk, hs, rfl⟩
    by_cases hlt : f.length + ks.length < n
    · obtain ⟨cs', m', t', x6', r, h1, h2, h3⟩ := way_step cs m t ds (.int n) b f ks x6 hc h0 hd hk hl (by omega) (by omega)
      right
      have ht : t_law_way_2 (wayE (.pot cs m t) ds (.int n) b f ks x6 none) = .ok true (wayE (.pot cs m t) ds (.int n) b f ks x6 none) := by
        unfold t_law_way_2
        apply x_end
        · repeat' (first | (with_reducible assumption) | (with_reducible exact x_dat) | (with_reducible exact x_nil) | (with_reducible exact y_skip) | (with_reducible exact x_retB) | (with_reducible refine x_val ?_; rfl) | (with_reducible refine x_own ?_; rfl) | (with_reducible refine x_io ?_; rfl) | (with_reducible apply x_cons) | (with_reducible apply z_T) | (with_reducible apply z_F) | (with_reducible apply y_seq) | (with_reducible apply y_set) | (with_reducible apply y_expr) | (with_reducible apply y_ret) | (with_reducible apply y_if) | (with_reducible apply x_if) | (with_reducible apply x_and) | (with_reducible apply x_or) | (with_reducible apply x_not) | (with_reducible apply x_test) | (with_reducible apply x_op2) | (with_reducible apply x_op1) | (with_reducible apply x_callB) | (with_reducible apply x_tup) | (with_reducible apply x_lst) | (with_reducible apply x_met) | (with_reducible apply x_call) | (with_reducible apply y_par2) | (with_reducible apply y_par3) | (with_reducible apply y_unp) | (with_reducible apply y_for) | (with_reducible apply x_rng1) | (with_reducible apply x_rng2) | (with_reducible apply x_seq) | (with_reducible apply x_enum) | (with_reducible apply x_still) | (with_reducible apply x_rgL1) | (with_reducible exact decide_eq_true (by omega)) | (with_reducible exact decide_eq_false (by omega)) | (with_reducible exact f_append (by omega)) | (with_reducible exact small_le (by omega)) | (with_reducible exact f_rng1 (big_of (by omega) (by omega))) | (exact ⟨.inl rfl, rfl⟩) | (exact (rfl : (_ : Bool) = true)) | (exact (rfl : (_ : Bool) = false)) | (rfl))
        · exact decide_eq_true (by omega)
        · rfl
      rcases h3 with h3 | ⟨h4, h3⟩
      · refine ⟨_, _, _, ht, h3, ?_, _, _, _, _, _, _, rfl, h1, fun x hx => ?_, fun d hd => ?_, ?_, rfl⟩
        · rw [List.length_append, List.length_append, List.length_singleton, List.length_singleton]; omega
        · rcases List.mem_append.mp hx with q | q
          · exact hf x q
          · rw [List.mem_singleton.mp q]; exact ⟨r, h2, .inl rfl⟩
        · rcases List.mem_append.mp hd with q | q
          · exact hk d q
          · rw [List.mem_singleton.mp q]; exact h2
        · rw [List.length_append, List.length_append, List.length_singleton, List.length_singleton]; omega
      · have hp : 0 < ks.length := List.length_pos_iff.mpr h4
        refine ⟨_, _, _, ht, h3, ?_, _, _, _, _, _, _, rfl, h1, fun x hx => ?_, fun d hd => hk d (List.dropLast_subset ks hd), ?_, rfl⟩
        · rw [List.length_append, List.length_singleton, List.length_dropLast]; omega
        · rcases List.mem_append.mp hx with q | q
          · exact hf x q
          · rw [List.mem_singleton.mp q]; exact ⟨r, h2, .inr rfl⟩
        · rw [List.length_append, List.length_singleton, List.length_dropLast]; omega
    · left
      refine ⟨?_, cs, m, t, f, ks, x6, rfl, hc, hf, hk, hs⟩
      unfold t_law_way_2
      apply x_end
      · repeat' (first | (with_reducible assumption) | (with_reducible exact x_dat) | (with_reducible exact x_nil) | (with_reducible exact y_skip) | (with_reducible exact x_retB) | (with_reducible refine x_val ?_; rfl) | (with_reducible refine x_own ?_; rfl) | (with_reducible refine x_io ?_; rfl) | (with_reducible apply x_cons) | (with_reducible apply z_T) | (with_reducible apply z_F) | (with_reducible apply y_seq) | (with_reducible apply y_set) | (with_reducible apply y_expr) | (with_reducible apply y_ret) | (with_reducible apply y_if) | (with_reducible apply x_if) | (with_reducible apply x_and) | (with_reducible apply x_or) | (with_reducible apply x_not) | (with_reducible apply x_test) | (with_reducible apply x_op2) | (with_reducible apply x_op1) | (with_reducible apply x_callB) | (with_reducible apply x_tup) | (with_reducible apply x_lst) | (with_reducible apply x_met) | (with_reducible apply x_call) | (with_reducible apply y_par2) | (with_reducible apply y_par3) | (with_reducible apply y_unp) | (with_reducible apply y_for) | (with_reducible apply x_rng1) | (with_reducible apply x_rng2) | (with_reducible apply x_seq) | (with_reducible apply x_enum) | (with_reducible apply x_still) | (with_reducible apply x_rgL1) | (with_reducible exact decide_eq_true (by omega)) | (with_reducible exact decide_eq_false (by omega)) | (with_reducible exact f_append (by omega)) | (with_reducible exact small_le (by omega)) | (with_reducible exact f_rng1 (big_of (by omega) (by omega))) | (exact ⟨.inl rfl, rfl⟩) | (exact (rfl : (_ : Bool) = true)) | (exact (rfl : (_ : Bool) = false)) | (rfl))
      · exact decide_eq_false (by omega)
      · rfl
  have loop2 : ∀ k e, (∃ pot f ks x6, e = wayE pot ds (.int n) b f ks x6 none ∧ (∀ x ∈ f, stepLike ds x) ∧ (∀ d ∈ ks, d ∈ ds) ∧ f.length + ks.length ≤ n + 1 ∧ k = ks.length ∧ ∃ cs m t, pot = .pot cs m t ∧ cs.length ≤ 63) →
      ∃ e', sWhile t_law_way_4 b_law_way_5 e = .nx e' ∧ ∃ cs m t f x6, e' = wayE (.pot cs m t) ds (.int n) b f [] x6 none ∧ cs.length ≤ 63 ∧ (∀ x ∈ f, stepLike ds x) ∧ f.length ≤ n + 1 := by
    refine while_eq _ _ ?_
    rintro k e ⟨pot, f, ks, x6, rfl, hf, hk, hs, rfl, cs, m, t, rfl, hc⟩
    have fk : ∀ d ∈ ks, flatD d = true := fun d h => flat_int (hd d (hk d h))
    have e1 := neNil ks (shaped_flat ks fk)
    by_cases z : ks = []
    · subst z
      left
      refine ⟨?_, cs, m, t, f, x6, rfl, hc, hf, by simpa using hs⟩
      unfold t_law_way_4
      repeat' (first | (with_reducible assumption) | (with_reducible exact x_dat) | (with_reducible exact x_nil) | (with_reducible exact y_skip) | (with_reducible exact x_retB) | (with_reducible refine x_val ?_; rfl) | (with_reducible refine x_own ?_; rfl) | (with_reducible refine x_io ?_; rfl) | (with_reducible apply x_cons) | (with_reducible apply z_T) | (with_reducible apply z_F) | (with_reducible apply y_seq) | (with_reducible apply y_set) | (with_reducible apply y_expr) | (with_reducible apply y_ret) | (with_reducible apply y_if) | (with_reducible apply x_if) | (with_reducible apply x_and) | (with_reducible apply x_or) | (with_reducible apply x_not) | (with_reducible apply x_test) | (with_reducible apply x_op2) | (with_reducible apply x_op1) | (with_reducible apply x_callB) | (with_reducible apply x_tup) | (with_reducible apply x_lst) | (with_reducible apply x_met) | (with_reducible apply x_call) | (with_reducible apply y_par2) | (with_reducible apply y_par3) | (with_reducible apply y_unp) | (with_reducible apply y_for) | (with_reducible apply x_rng1) | (with_reducible apply x_rng2) | (with_reducible apply x_seq) | (with_reducible apply x_enum) | (with_reducible apply x_still) | (with_reducible apply x_rgL1) | (with_reducible exact e1) | (with_reducible exact decide_eq_true (by omega)) | (with_reducible exact decide_eq_false (by omega)) | (with_reducible exact f_append (by omega)) | (with_reducible exact small_le (by omega)) | (with_reducible exact f_rng1 (big_of (by omega) (by omega))) | (exact ⟨.inl rfl, rfl⟩) | (exact (rfl : (_ : Bool) = true)) | (exact (rfl : (_ : Bool) = false)) | (rfl))
    · have n1 : ks.isEmpty = false := by simpa using z
      rw [n1] at e1
      have hp : 0 < ks.length := List.length_pos_iff.mpr z
      have hlast : fPop ks [] = some (ks.dropLast, ks.getLast z) := by
        unfold fPop
        rw [show ks[ks.length - 1]? = some (ks.getLast z) by rw [← List.getLast?_eq_getElem?, List.getLast?_eq_getLast z]]
        rfl
      right
      refine ⟨wayE (.pot cs m t) ds (.int n) b f ks x6 none, wayE (.pot cs m t) ds (.int n) b (f ++ [.tuple [.str ("out" : Str), ks.getLast z]]) ks.dropLast x6 none, ks.dropLast.length, ?_, ?_, by rw [List.length_dropLast]; omega, _, _, _, _, rfl, fun x hx => ?_, fun d hd => hk d (List.dropLast_subset ks hd), ?_, rfl, cs, m, t, rfl, hc⟩
      · unfold t_law_way_4
        apply x_end
        · repeat' (first | (with_reducible assumption) | (with_reducible exact x_dat) | (with_reducible exact x_nil) | (with_reducible exact y_skip) | (with_reducible exact x_retB) | (with_reducible refine x_val ?_; rfl) | (with_reducible refine x_own ?_; rfl) | (with_reducible refine x_io ?_; rfl) | (with_reducible apply x_cons) | (with_reducible apply z_T) | (with_reducible apply z_F) | (with_reducible apply y_seq) | (with_reducible apply y_set) | (with_reducible apply y_expr) | (with_reducible apply y_ret) | (with_reducible apply y_if) | (with_reducible apply x_if) | (with_reducible apply x_and) | (with_reducible apply x_or) | (with_reducible apply x_not) | (with_reducible apply x_test) | (with_reducible apply x_op2) | (with_reducible apply x_op1) | (with_reducible apply x_callB) | (with_reducible apply x_tup) | (with_reducible apply x_lst) | (with_reducible apply x_met) | (with_reducible apply x_call) | (with_reducible apply y_par2) | (with_reducible apply y_par3) | (with_reducible apply y_unp) | (with_reducible apply y_for) | (with_reducible apply x_rng1) | (with_reducible apply x_rng2) | (with_reducible apply x_seq) | (with_reducible apply x_enum) | (with_reducible apply x_still) | (with_reducible apply x_rgL1) | (with_reducible exact e1) | (with_reducible exact decide_eq_true (by omega)) | (with_reducible exact decide_eq_false (by omega)) | (with_reducible exact f_append (by omega)) | (with_reducible exact small_le (by omega)) | (with_reducible exact f_rng1 (big_of (by omega) (by omega))) | (exact ⟨.inl rfl, rfl⟩) | (exact (rfl : (_ : Bool) = true)) | (exact (rfl : (_ : Bool) = false)) | (rfl))
        · rfl
        · rfl
      · unfold b_law_way_5
        apply y_end
        · repeat' (first | (with_reducible assumption) | (with_reducible exact x_dat) | (with_reducible exact x_nil) | (with_reducible exact y_skip) | (with_reducible exact x_retB) | (with_reducible refine x_val ?_; rfl) | (with_reducible refine x_own ?_; rfl) | (with_reducible refine x_io ?_; rfl) | (with_reducible apply x_cons) | (with_reducible apply z_T) | (with_reducible apply z_F) | (with_reducible apply y_seq) | (with_reducible apply y_set) | (with_reducible apply y_expr) | (with_reducible apply y_ret) | (with_reducible apply y_if) | (with_reducible apply x_if) | (with_reducible apply x_and) | (with_reducible apply x_or) | (with_reducible apply x_not) | (with_reducible apply x_test) | (with_reducible apply x_op2) | (with_reducible apply x_op1) | (with_reducible apply x_callB) | (with_reducible apply x_tup) | (with_reducible apply x_lst) | (with_reducible apply x_met) | (with_reducible apply x_call) | (with_reducible apply y_par2) | (with_reducible apply y_par3) | (with_reducible apply y_unp) | (with_reducible apply y_for) | (with_reducible apply x_rng1) | (with_reducible apply x_rng2) | (with_reducible apply x_seq) | (with_reducible apply x_enum) | (with_reducible apply x_still) | (with_reducible apply x_rgL1) | (with_reducible exact hlast) | (with_reducible exact decide_eq_true (by omega)) | (with_reducible exact decide_eq_false (by omega)) | (with_reducible exact f_append (by omega)) | (with_reducible exact small_le (by omega)) | (with_reducible exact f_rng1 (big_of (by omega) (by omega))) | (exact ⟨.inl rfl, rfl⟩) | (exact (rfl : (_ : Bool) = true)) | (exact (rfl : (_ : Bool) = false)) | (rfl))
        · rfl
      · rcases List.mem_append.mp hx with q | q
        · exact hf x q
        · rw [List.mem_singleton.mp q]; exact ⟨_, hk _ (List.getLast_mem z), .inr rfl⟩
      · rw [List.length_append, List.length_singleton, List.length_dropLast]; omega
  obtain ⟨_, h1, cs1, m1, t1, f, ks, x6, rfl, h2, h3, h4, h5⟩ := loop1 _ _ ⟨cs, m, t, [], [], none, rfl, hc, (fun x h => nomatch h), (fun x h => nomatch h), Nat.zero_le _, rfl⟩
  obtain ⟨_, g1, cs2, m2, t2, f2, x62, rfl, g2, g3, g4⟩ := loop2 _ _ ⟨_, f, ks, x6, rfl, h3, h4, h5, rfl, cs1, m1, t1, rfl, h2⟩
  refine ⟨f2, cs2, m2, t2, ?_, g2, g3, g4⟩
  unfold f_law_way
  apply fn_rt rfl
  · unfold m_law_way
    repeat' (first | (with_reducible assumption) | (with_reducible exact x_dat) | (with_reducible exact x_nil) | (with_reducible exact y_skip) | (with_reducible exact x_retB) | (with_reducible refine x_val ?_; rfl) | (with_reducible refine x_own ?_; rfl) | (with_reducible refine x_io ?_; rfl) | (with_reducible apply x_cons) | (with_reducible apply z_T) | (with_reducible apply z_F) | (with_reducible apply y_seq) | (with_reducible apply y_set) | (with_reducible apply y_expr) | (with_reducible apply y_ret) | (with_reducible apply y_if) | (with_reducible apply x_if) | (with_reducible apply x_and) | (with_reducible apply x_or) | (with_reducible apply x_not) | (with_reducible apply x_test) | (with_reducible apply x_op2) | (with_reducible apply x_op1) | (with_reducible apply x_callB) | (with_reducible apply x_tup) | (with_reducible apply x_lst) | (with_reducible apply x_met) | (with_reducible apply x_call) | (with_reducible apply y_par2) | (with_reducible apply y_par3) | (with_reducible apply y_unp) | (with_reducible apply y_for) | (with_reducible apply x_rng1) | (with_reducible apply x_rng2) | (with_reducible apply x_seq) | (with_reducible apply x_enum) | (with_reducible apply x_still) | (with_reducible apply x_rgL1) | (exact h1) | (exact g1) | (with_reducible exact decide_eq_true (by omega)) | (with_reducible exact decide_eq_false (by omega)) | (with_reducible exact f_append (by omega)) | (with_reducible exact small_le (by omega)) | (with_reducible exact f_rng1 (big_of (by omega) (by omega))) | (exact ⟨.inl rfl, rfl⟩) | (exact (rfl : (_ : Bool) = true)) | (exact (rfl : (_ : Bool) = false)) | (rfl))
  · rfl
  · rfl
end KD


namespace KD
open PySem PySem.Spec L2 VL
open PyProof.Rows hiding St
/-- its text is of signs that there are -/
def Far (d : Dt) : Prop := ∀ k : Nat, 1114112 ≤ k → k ∉ d.shown.cps.toList
theorem Far.list {xs : List Dt} (h : ∀ x ∈ xs, Far x) : Far (.list xs) := fun k hk hm => by
  have h1 := shownAll_free (k := k) (xs := xs) fun x hx => h x hx k hk
  rw [PyData.shown_list, mem_cps_append, mem_cps_append, signs_lbrack, signs_rbrack, mem_join, signs_sep] at hm
  simp only [List.mem_cons, List.not_mem_nil, or_false] at hm
  rcases hm with (hm | ⟨t, ht, hc⟩ | ⟨_, hm | hm⟩) | hm
  · omega
  · exact h1 t ht hc
  · omega
  · omega
  · omega
theorem Far.tuple {xs : List Dt} (h : ∀ x ∈ xs, Far x) : Far (.tuple xs) := fun k hk hm => by
  have h1 := shownAll_free (k := k) (xs := xs) fun x hx => h x hx k hk
  rw [PyData.shown_tuple, mem_cps_append, mem_cps_append, signs_lparen, mem_join, signs_sep, signs_tuple_end] at hm
  simp only [List.mem_cons, List.not_mem_nil, or_false] at hm
  rcases hm with (hm | ⟨t, ht, hc⟩ | ⟨_, hm | hm⟩) | hm
  · omega
  · exact h1 t ht hc
  · omega
  · omega
  · split at hm
    · simp only [List.mem_cons, List.not_mem_nil, or_false] at hm
      omega
    · simp only [List.mem_cons, List.not_mem_nil, or_false] at hm
      omega
/-- data of short leaves: its bulk, its depth -/
structure Box (n k : Nat) (d : Dt) : Prop where
  a : d.leavesShort 13 = true
  b : d.canLay0 = true
  c : d.showable = true
  e : d.hasDict = false
  n : d.bulk ≤ n
  k : d.depth ≤ k
  s : Far d
structure BoxL (n k : Nat) (ds : List Dt) : Prop where
  a : PyData.leavesShortAll 13 ds = true
  b : PyData.canLayAll0 ds = true
  c : PyData.showableAll ds = true
  e : PyData.hasDictAll ds = false
  n : PyData.bulkAll ds ≤ n
  k : PyData.depthAll ds ≤ k
  s : ∀ x ∈ ds, Far x
theorem Box.mono {n k n' k' : Nat} {d : Dt} (h : Box n k d) (hn : n ≤ n') (hk : k ≤ k') : Box n' k' d := ⟨h.a, h.b, h.c, h.e, Nat.le_trans h.n hn, Nat.le_trans h.k hk, h.s⟩
theorem BoxL.mono {n k n' k' : Nat} {d : List Dt} (h : BoxL n k d) (hn : n ≤ n') (hk : k ≤ k') : BoxL n' k' d := ⟨h.a, h.b, h.c, h.e, Nat.le_trans h.n hn, Nat.le_trans h.k hk, h.s⟩
theorem BoxL.nil {k : Nat} : BoxL 0 k [] := ⟨rfl, rfl, rfl, rfl, Nat.le_refl _, Nat.zero_le _, fun x hx => nomatch hx⟩
theorem BoxL.cons {a b k : Nat} {d : Dt} {ds : List Dt} (h : Box a k d) (g : BoxL b k ds) : BoxL (a + 1 + b) k (d :: ds) :=
  ⟨by simp [PyData.leavesShortAll, h.a, g.a], by simp [PyData.canLayAll0, h.b, g.b], by simp [PyData.showableAll, h.c, g.c], by simp [PyData.hasDictAll, h.e, g.e], by have := h.n; have := g.n; simp only [PyData.bulkAll]; omega, by have := h.k; have := g.k; simp only [PyData.depthAll]; omega, List.forall_mem_cons.mpr ⟨h.s, g.s⟩⟩
theorem BoxL.app {a b k : Nat} : ∀ {ds es : List Dt}, BoxL a k ds → BoxL b k es → BoxL (a + b) k (ds ++ es)
  | [], _, _, g => g.mono (by omega) (Nat.le_refl _)
  | d :: ds, es, h, g => by
    have ha := h.a; have hb := h.b; have hc := h.c; have he := h.e; have hn := h.n; have hk := h.k
    simp only [PyData.leavesShortAll, PyData.canLayAll0, PyData.showableAll, PyData.hasDictAll, PyData.bulkAll, PyData.depthAll, Bool.and_eq_true, Bool.or_eq_false_iff] at ha hb hc he hn hk
    have h1 : Box d.bulk k d := ⟨ha.1, hb.1, hc.1, he.1, Nat.le_refl _, by omega, h.s d List.mem_cons_self⟩
    have h2 : BoxL (PyData.bulkAll ds) k ds := ⟨ha.2, hb.2, hc.2, he.2, Nat.le_refl _, by omega, fun x hx => h.s x (List.mem_cons_of_mem _ hx)⟩
    exact (BoxL.cons h1 (h2.app g)).mono (by omega) (Nat.le_refl _)
theorem BoxL.all {n k : Nat} : ∀ {ds : List Dt}, (∀ d ∈ ds, Box n k d) → BoxL (ds.length * (n + 1)) k ds
  | [], _ => BoxL.nil.mono (Nat.zero_le _) (Nat.le_refl _)
  | d :: ds, h => (BoxL.cons (h d List.mem_cons_self) (BoxL.all fun x hx => h x (List.mem_cons_of_mem _ hx))).mono (by rw [List.length_cons, Nat.succ_mul]; omega) (Nat.le_refl _)
theorem BoxL.list {n k : Nat} {ds : List Dt} (h : BoxL n k ds) : Box n (k + 1) (.list ds) :=
  ⟨by simpa [PyData.leavesShort] using h.a, by simpa [PyData.canLay0] using h.b, by simpa [PyData.showable] using h.c, by simpa [PyData.hasDict] using h.e, by simpa [PyData.bulk] using h.n, by have := h.k; simp only [PyData.depth]; omega, Far.list h.s⟩
theorem BoxL.tup {n k : Nat} {ds : List Dt} (h : BoxL n k ds) : Box n (k + 1) (.tuple ds) :=
  ⟨by simpa [PyData.leavesShort] using h.a, by simpa [PyData.canLay0] using h.b, by simpa [PyData.showable] using h.c, by simpa [PyData.hasDict] using h.e, by simpa [PyData.bulk] using h.n, by have := h.k; simp only [PyData.depth]; omega, Far.tuple h.s⟩
theorem int_short : ∀ k : Fin 201, PyData.leavesShort 13 (.int ((k : Int) - 100)) = true ∧ PyData.showable (.int ((k : Int) - 100)) = true := by decide +kernel
theorem box_int {i : Int} (h0 : -100 ≤ i) (h1 : i ≤ 100) : Box 0 0 (.int i) := by
  obtain ⟨n, hn⟩ := Int.eq_ofNat_of_zero_le (show 0 ≤ i + 100 by omega)
  have := int_short ⟨n, by omega⟩
  have e : ((⟨n, by omega⟩ : Fin 201) : Int) - 100 = i := by show ((n : Nat) : Int) - 100 = i; omega
  rw [e] at this
  exact ⟨this.1, rfl, this.2, rfl, Nat.le_refl _, Nat.le_refl _, fun k hk => shown_int_free' ⟨by omega, .inr (by omega)⟩ i⟩
theorem far_of {d : Dt} (h : (d.shown.cps.toList.all fun c => decide (c < 1114112)) = true) : Far d := fun k hk hm => by
  have := List.all_eq_true.mp h k hm
  simp at this
  omega
theorem box_none : Box 0 0 .none := ⟨rfl, rfl, rfl, rfl, Nat.le_refl _, Nat.le_refl _, far_of (by decide +kernel)⟩
theorem box_bool {b : Bool} : Box 0 0 (.bool b) := ⟨rfl, rfl, rfl, rfl, Nat.le_refl _, Nat.le_refl _, far_of (by cases b <;> decide +kernel)⟩
/-- a written word -/
def wordB (x : Str) : Bool := PyData.leavesShort 13 (.str x) && PyData.strOk x && decide (x.cps.size ≤ 8) && ((PyData.str x).shown.cps.toList.all fun c => decide (c < 1114112))
theorem box_word {x : Str} (h : wordB x = true) : Box 8 0 (.str x) := by
  unfold wordB at h
  simp only [Bool.and_eq_true, decide_eq_true_eq] at h
  exact ⟨h.1.1.1, h.1.1.2, rfl, rfl, h.1.2, Nat.le_refl _, far_of (by simpa using h.2)⟩
theorem w_in : wordB ("in" : Str) = true := by decide +kernel
theorem w_out : wordB ("out" : Str) = true := by decide +kernel
theorem w_even : wordB ("even" : Str) = true := by decide +kernel
theorem w_stand : wordB ("stand" : Str) = true := by decide +kernel
theorem w_bow : wordB ("bow" : Str) = true := by decide +kernel
theorem w_dash : wordB ("-" : Str) = true := by decide +kernel
theorem w_told : wordB ("told" : Str) = true := by decide +kernel
theorem w_unfit : wordB ("unfit" : Str) = true := by decide +kernel
theorem repr_ok {n k : Nat} {d : Dt} (h : Box n k d) (hn : n ≤ 1048576) (hk : k ≤ 60) (hs : seqD d = true) : fRepr [d] = some (.val (.str d.shown)) := by
  have h1 := PyData.shown_fits_bulk (B := 13) (by decide) (by decide) h.a (Nat.le_trans h.n hn)
  have h2 : small d.shown.length = true := decide_eq_true (by rw [sizeLine_eq] at h1; exact h1)
  exact if_pos ⟨hs, h.b, h.c, h.e, Nat.le_trans h.k hk, h2⟩
theorem Box.text {n k : Nat} {d : Dt} (h : Box n k d) : PyData.strOk d.shown = true := by
  unfold PyData.strOk
  rw [Array.all_eq_true_iff_forall_mem]
  intro c hc
  refine decide_eq_true (Nat.lt_of_not_le fun z => h.s c z (Array.mem_toList_iff.mpr hc))
theorem Box.shaped {n k : Nat} {d : Dt} (h : Box n k d) (hk : k ≤ 60) : SeqAt.shaped d = true := by
  unfold SeqAt.shaped
  rw [h.b, Bool.true_and]
  exact decide_eq_true (Nat.le_trans h.k (by omega))
end KD


namespace KD
open PySem PySem.Spec L2 VL
open PyProof.Rows hiding St
/-- a comprehension that makes lists -/
theorem itLG_eq {g : Tg} {t : M Bool} {m : M R} {vs : List Nat} {all : List Dt} (I : Nat → List (List Dt) → En → Prop) : ∀ (ds : List Dt) (acc : List (List Dt)) (e : En) (k : Nat), I k acc e →
    (∀ i d acc e, ds[i]? = some d → I (k + i) acc e → ∃ e1 e2 y e3, g d (wipeE e vs) = some e1 ∧ t e1 = .ok true e2 ∧ m e2 = .ok (.tmp (.own (.lst y))) e3 ∧ acc.length < 1000000 ∧ I (k + i + 1) (acc ++ [y]) e3) →
    ∃ acc' e', itLG g t m vs none all ds acc e = .ok acc' e' ∧ I (k + ds.length) acc' e'
  | [], acc, e, k, h0, _ => ⟨acc, e, by unfold itLG; rw [if_pos (show asWas none all e = true from rfl)], h0⟩
  | d :: ds, acc, e, k, h0, hs => by
    obtain ⟨e1, e2, y, e3, h1, h2, h3, h4, h5⟩ := hs 0 d acc e rfl h0
    obtain ⟨a, b, h6, h7⟩ := itLG_eq (g := g) (t := t) (m := m) (vs := vs) (all := all) I ds _ e3 (k + 1) h5 fun i d acc e hi h => by
      have := hs (i + 1) d acc e (by simpa using hi) (by rw [show k + (i + 1) = k + 1 + i by omega]; exact h)
      rw [show k + (i + 1) + 1 = k + 1 + i + 1 by omega] at this
      exact this
    refine ⟨a, b, ?_, by rw [List.length_cons, show k + (ds.length + 1) = k + 1 + ds.length by omega]; exact h7⟩
    unfold itLG
    rw [if_pos (show asWas none all e = true from rfl), h1]
    simp only
    rw [h2]
    simp only
    rw [h3]
    simp only
    rw [if_pos (show small (acc.length + 1) = true from small_le (by omega))]
    exact h6
theorem x_lcG {mi : M It2} {g : Tg} {t : M Bool} {m : M R} {vs : List Nat} {e e1 e2 : En} {ds : List Dt} {acc : List (List Dt)} (hi : mi e = .ok (ds, none) e1) (hp : (vs.all fun v => VL.plain e1 v) = true) (hl : itLG g t m vs none ds ds [] e1 = .ok acc e2) : mLcG mi g t m vs e = .ok (.tmp (.own (.grid acc))) (back e1 e2 vs) := by
  unfold mLcG
  refine x_bind hi ?_
  rw [if_pos ⟨hp, fun i z => nomatch z⟩]
  simp only
  rw [hl]
theorem rgs_get {lo : Int} {n i : Nat} {d : Dt} (h : (rgs lo n)[i]? = some d) : d = .int (lo + i) ∧ i < n := by
  unfold rgs at h
  rw [List.getElem?_map] at h
  simp only [Option.map_eq_some_iff] at h
  obtain ⟨j, hj, rfl⟩ := h
  obtain ⟨h1, h2⟩ := List.getElem?_eq_some_iff.mp hj
  rw [List.getElem_range] at h2
  subst h2
  exact ⟨rfl, by simpa using h1⟩
theorem rgs_mem {lo : Int} {n : Nat} {d : Dt} (h : d ∈ rgs lo n) : ∃ i : Nat, i < n ∧ d = .int (lo + i) := by
  obtain ⟨i, hi⟩ := List.getElem?_of_mem h
  obtain ⟨e, h⟩ := rgs_get hi
  exact ⟨i, h, e⟩
theorem shapedI (a : Int) : SeqAt.shaped (.int a) = true := rfl
theorem feqI (a b : Int) : fEq (.int a) (.int b) = some (.val (.bool (decide (a = b)))) := by
  have : PyData.eqv (.int a) (.int b) = decide (a = b) := by
    simp only [PyData.eqv]
    first | rfl | simp | (by_cases h : a = b <;> simp [h])
  simp [fEq, shapedI, this]
theorem fneI (a b : Int) : fNe (.int a) (.int b) = some (.val (.bool (!decide (a = b)))) := by
  have : PyData.eqv (.int a) (.int b) = decide (a = b) := by
    simp only [PyData.eqv]
    first | rfl | simp | (by_cases h : a = b <;> simp [h])
  simp [fNe, shapedI, this]
/-- a word of a table -/
def isWord (d : Dt) : Prop := d = .str ("-" : Str) ∨ d = .str ("even" : Str) ∨ d = .str ("stand" : Str) ∨ d = .str ("bow" : Str)
def someD : List Dt := [.tuple [.str ("even" : Str), .str ("even" : Str)], .tuple [.str ("stand" : Str), .str ("bow" : Str)], .tuple [.str ("bow" : Str), .str ("stand" : Str)], .tuple [.str ("bow" : Str), .str ("bow" : Str)], .tuple [.str ("stand" : Str), .str ("stand" : Str)]]
theorem some_pair {d : Dt} (h : d ∈ someD) : ∃ a b, d = .tuple [a, b] ∧ isWord a ∧ isWord b := by
  unfold someD at h
  simp only [List.mem_cons, List.not_mem_nil, or_false] at h
  unfold isWord
  rcases h with rfl | rfl | rfl | rfl | rfl <;> exact ⟨_, _, rfl, by simp, by simp⟩
abbrev doorE (pot : Ob) (n : Nat) (b : Bool) (x3 : Option Tv) (rk : List Dt) (tb : List (List Dt)) (od : List Dt) (x7 x8 x9 x10 : Option Tv) : En :=
  [some (.io pot), some (.val (.int n)), some (.val (.bool b)), x3, some (.own (.lst rk)), some (.own (.grid tb)), some (.own (.lst od)), x7, x8, x9, x10]
def GridOk (n : Nat) (tb : List (List Dt)) : Prop := tb.length = n ∧ ∀ row ∈ tb, row.length = n ∧ ∀ d ∈ row, isWord d
theorem GridOk.set {n i j : Nat} {tb : List (List Dt)} {row : List Dt} {d : Dt} (h : GridOk n tb) (hr : tb[i]? = some row) (hd : isWord d) : GridOk n (tb.set i (row.set j d)) := by
  refine ⟨by rw [List.length_set]; exact h.1, fun r hr' => ?_⟩
  rcases List.mem_or_eq_of_mem_set hr' with q | q
  · exact h.2 r q
  · subst q
    have hrow := h.2 row (List.mem_of_getElem? hr)
    refine ⟨by rw [List.length_set]; exact hrow.1, fun x hx => ?_⟩
    rcases List.mem_or_eq_of_mem_set hx with q | q
    · exact hrow.2 x q
    · rw [q]; exact hd
theorem ixNat {n k : Nat} (h : k < n) : ixN n (k : Int) = some k := by
  unfold ixN
  rw [if_pos (by omega), if_pos (by omega)]
  simp
theorem gGrid_eq {e : En} {i u v a b : Nat} {rows : List (List Dt)} {ds : List Dt} {d : Dt} {x y : Int} (ho : obOf e[i]? = some (.grid rows)) (hu : VL.intAt e u = some x) (hv : VL.intAt e v = some y) (h1 : ixN rows.length x = some a) (h2 : rows[a]? = some ds) (h3 : ixN ds.length y = some b) :
    gGrid i u v d e = some (putB e i (.grid (rows.set a (ds.set b d)))) := by
  unfold gGrid
  rw [ho, hu, hv]
  simp only
  rw [h1]
  simp only
  rw [h2]
  simp only
  rw [h3]
theorem grid_store {pot : Ob} {n : Nat} {b : Bool} {rk od : List Dt} {tb : List (List Dt)} {x7 x10 x9 : Option Tv} {i j : Nat} {a c : Dt} (hi : i < n) (hj : j < n) (ht : GridOk n tb) (ha : isWord a) (hc : isWord c) :
    ∃ tb', GridOk n tb' ∧ gT 2 (gConsD (gGrid 5 3 8) (gConsD (gGrid 5 8 3) gNilD)) (.tuple [a, c]) (doorE pot n b (some (.val (.int i))) rk tb od x7 (some (.val (.int j))) x9 x10) =
      some (doorE pot n b (some (.val (.int i))) rk tb' od x7 (some (.val (.int j))) x9 x10) := by
  have l1 : i < tb.length := by rw [ht.1]; exact hi
  have r1 : tb[i]? = some tb[i] := List.getElem?_eq_getElem l1
  have n1 : (tb[i]).length = n := (ht.2 _ (List.getElem_mem l1)).1
  have g1 := ht.set (j := j) r1 ha
  have l2 : j < (tb.set i (tb[i].set j a)).length := by rw [g1.1]; exact hj
  have r2 : (tb.set i (tb[i].set j a))[j]? = some (tb.set i (tb[i].set j a))[j] := List.getElem?_eq_getElem l2
  have n2 := (g1.2 _ (List.getElem_mem l2)).1
  refine ⟨_, g1.set (j := i) r2 hc, ?_⟩
  have q1 : gGrid 5 3 8 a (doorE pot n b (some (.val (.int i))) rk tb od x7 (some (.val (.int j))) x9 x10) = some (doorE pot n b (some (.val (.int i))) rk (tb.set i (tb[i].set j a)) od x7 (some (.val (.int j))) x9 x10) :=
    gGrid_eq rfl rfl rfl (ixNat l1) r1 (by rw [n1]; exact ixNat hj)
  have q2 : gGrid 5 8 3 c (doorE pot n b (some (.val (.int i))) rk (tb.set i (tb[i].set j a)) od x7 (some (.val (.int j))) x9 x10) = some (doorE pot n b (some (.val (.int i))) rk ((tb.set i (tb[i].set j a)).set j ((tb.set i (tb[i].set j a))[j].set i c)) od x7 (some (.val (.int j))) x9 x10) :=
    gGrid_eq rfl rfl rfl (ixNat l2) r2 (by rw [n2]; exact ixNat hi)
  show (gGrid 5 3 8 a _).bind _ = _
  rw [q1]
  show (gGrid 5 8 3 c _).bind _ = _
  rw [q2]
  rfl
theorem door_step (cs : List Int) (m t : Int) (n : Nat) (b : Bool) (rk od : List Dt) (tb : List (List Dt)) (x7 x10 x9 : Option Tv) (i j : Nat) (hc : cs.length ≤ 63) (hi : i < n) (hj : j < n) (ht : GridOk n tb) (hrk : rk.length = n ∧ ∀ d ∈ rk, intLike d = true) (h7 : x7 = some (.own (.lst someD)) ∨ x7 = some (.val (.list someD))) :
    ∃ cs' m' t' tb' x7' x9', cs'.length ≤ 63 ∧ GridOk n tb' ∧ (x7' = some (.own (.lst someD)) ∨ x7' = some (.val (.list someD))) ∧
      b_law_door_2 (doorE (.pot cs m t) n b (some (.val (.int i))) rk tb od x7 (some (.val (.int j))) x9 x10) = .nx (doorE (.pot cs' m' t') n b (some (.val (.int i))) rk tb' od x7' (some (.val (.int j))) x9' x10) := by
  have li : i < rk.length := by rw [hrk.1]; exact hi
  have lj : j < rk.length := by rw [hrk.1]; exact hj
  obtain ⟨u, hu⟩ : ∃ u, rk[i] = .int u := by
    have := hrk.2 _ (List.getElem_mem li)
    cases q : rk[i] <;> rw [q] at this <;> first | exact ⟨_, rfl⟩ | cases this
  obtain ⟨v, hv⟩ : ∃ v, rk[j] = .int v := by
    have := hrk.2 _ (List.getElem_mem lj)
    cases q : rk[j] <;> rw [q] at this <;> first | exact ⟨_, rfl⟩ | cases this
  have f1 : fIx (.list rk) (.int (i : Int)) = some (.val (.int u)) := by rw [← hu]; exact f_ixL (List.getElem?_eq_getElem li)
  have f2 : fIx (.list rk) (.int (j : Int)) = some (.val (.int v)) := by rw [← hv]; exact f_ixL (List.getElem?_eq_getElem lj)
  -- the words
  obtain ⟨w, hw, hset⟩ : ∃ w, w ∈ someD ∧ sSet 9 (mIf (mTest (mOp2 fLt (mOp2 fIx (mVar 4) (mVar 3)) (mOp2 fIx (mVar 4) (mVar 8)))) (mOp2 fIx (mVar 7) (mDat (.int 1))) (mOp2 fIx (mVar 7) (mDat (.int 2)))) (doorE (.pot cs m t) n b (some (.val (.int i))) rk tb od x7 (some (.val (.int j))) x9 x10) = .nx (doorE (.pot cs m t) n b (some (.val (.int i))) rk tb od x7 (some (.val (.int j))) (some (.val w)) x10) := by
    by_cases huv : u < v
    · refine ⟨someD[1], List.getElem_mem _, ?_⟩
      rcases h7 with rfl | rfl
      · apply y_end
        · repeat' (first | (with_reducible assumption) | (with_reducible exact x_dat) | (with_reducible exact x_nil) | (with_reducible exact y_skip) | (with_reducible exact x_retB) | (with_reducible refine x_val ?_; rfl) | (with_reducible refine x_own ?_; rfl) | (with_reducible refine x_io ?_; rfl) | (with_reducible apply x_cons) | (with_reducible apply z_T) | (with_reducible apply z_F) | (with_reducible apply y_seq) | (with_reducible apply y_set) | (with_reducible apply y_expr) | (with_reducible apply y_ret) | (with_reducible apply y_if) | (with_reducible apply x_if) | (with_reducible apply x_and) | (with_reducible apply x_or) | (with_reducible apply x_not) | (with_reducible apply x_test) | (with_reducible apply x_op2) | (with_reducible apply x_op1) | (with_reducible apply x_callB) | (with_reducible apply x_tup) | (with_reducible apply x_lst) | (with_reducible apply x_met) | (with_reducible apply x_call) | (with_reducible apply y_par2) | (with_reducible apply y_par3) | (with_reducible apply y_unp) | (with_reducible apply y_for) | (with_reducible apply x_rng1) | (with_reducible apply x_rng2) | (with_reducible apply x_seq) | (with_reducible apply x_enum) | (with_reducible apply x_still) | (with_reducible apply x_rgL1) | (with_reducible exact f1) | (with_reducible exact f2) | (with_reducible exact decide_eq_true (by omega)) | (with_reducible exact decide_eq_false (by omega)) | (with_reducible exact f_append (by omega)) | (with_reducible exact small_le (by omega)) | (with_reducible exact f_rng1 (big_of (by omega) (by omega))) | (exact ⟨.inl rfl, rfl⟩) | (exact (rfl : (_ : Bool) = true)) | (exact (rfl : (_ : Bool) = false)) | (rfl))
        · rfl
      · apply y_end
        · repeat' (first | (with_reducible assumption) | (with_reducible exact x_dat) | (with_reducible exact x_nil) | (with_reducible exact y_skip) | (with_reducible exact x_retB) | (with_reducible refine x_val ?_; rfl) | (with_reducible refine x_own ?_; rfl) | (with_reducible refine x_io ?_; rfl) | (with_reducible apply x_cons) | (with_reducible apply z_T) | (with_reducible apply z_F) | (with_reducible apply y_seq) | (with_reducible apply y_set) | (with_reducible apply y_expr) | (with_reducible apply y_ret) | (with_reducible apply y_if) | (with_reducible apply x_if) | (with_reducible apply x_and) | (with_reducible apply x_or) | (with_reducible apply x_not) | (with_reducible apply x_test) | (with_reducible apply x_op2) | (with_reducible apply x_op1) | (with_reducible apply x_callB) | (with_reducible apply x_tup) | (with_reducible apply x_lst) | (with_reducible apply x_met) | (with_reducible apply x_call) | (with_reducible apply y_par2) | (with_reducible apply y_par3) | (with_reducible apply y_unp) | (with_reducible apply y_for) | (with_reducible apply x_rng1) | (with_reducible apply x_rng2) | (with_reducible apply x_seq) | (with_reducible apply x_enum) | (with_reducible apply x_still) | (with_reducible apply x_rgL1) | (with_reducible exact f1) | (with_reducible exact f2) | (with_reducible exact decide_eq_true (by omega)) | (with_reducible exact decide_eq_false (by omega)) | (with_reducible exact f_append (by omega)) | (with_reducible exact small_le (by omega)) | (with_reducible exact f_rng1 (big_of (by omega) (by omega))) | (exact ⟨.inl rfl, rfl⟩) | (exact (rfl : (_ : Bool) = true)) | (exact (rfl : (_ : Bool) = false)) | (rfl))
        · rfl
    · refine ⟨someD[2], List.getElem_mem _, ?_⟩
      rcases h7 with rfl | rfl
      · apply y_end
        · repeat' (first | (with_reducible assumption) | (with_reducible exact x_dat) | (with_reducible exact x_nil) | (with_reducible exact y_skip) | (with_reducible exact x_retB) | (with_reducible refine x_val ?_; rfl) | (with_reducible refine x_own ?_; rfl) | (with_reducible refine x_io ?_; rfl) | (with_reducible apply x_cons) | (with_reducible apply z_T) | (with_reducible apply z_F) | (with_reducible apply y_seq) | (with_reducible apply y_set) | (with_reducible apply y_expr) | (with_reducible apply y_ret) | (with_reducible apply y_if) | (with_reducible apply x_if) | (with_reducible apply x_and) | (with_reducible apply x_or) | (with_reducible apply x_not) | (with_reducible apply x_test) | (with_reducible apply x_op2) | (with_reducible apply x_op1) | (with_reducible apply x_callB) | (with_reducible apply x_tup) | (with_reducible apply x_lst) | (with_reducible apply x_met) | (with_reducible apply x_call) | (with_reducible apply y_par2) | (with_reducible apply y_par3) | (with_reducible apply y_unp) | (with_reducible apply y_for) | (with_reducible apply x_rng1) | (with_reducible apply x_rng2) | (with_reducible apply x_seq) | (with_reducible apply x_enum) | (with_reducible apply x_still) | (with_reducible apply x_rgL1) | (with_reducible exact f1) | (with_reducible exact f2) | (with_reducible exact decide_eq_true (by omega)) | (with_reducible exact decide_eq_false (by omega)) | (with_reducible exact f_append (by omega)) | (with_reducible exact small_le (by omega)) | (with_reducible exact f_rng1 (big_of (by omega) (by omega))) | (exact ⟨.inl rfl, rfl⟩) | (exact (rfl : (_ : Bool) = true)) | (exact (rfl : (_ : Bool) = false)) | (rfl))
        · rfl
      · apply y_end
        · repeat' (first | (with_reducible assumption) | (with_reducible exact x_dat) | (with_reducible exact x_nil) | (with_reducible exact y_skip) | (with_reducible exact x_retB) | (with_reducible refine x_val ?_; rfl) | (with_reducible refine x_own ?_; rfl) | (with_reducible refine x_io ?_; rfl) | (with_reducible apply x_cons) | (with_reducible apply z_T) | (with_reducible apply z_F) | (with_reducible apply y_seq) | (with_reducible apply y_set) | (with_reducible apply y_expr) | (with_reducible apply y_ret) | (with_reducible apply y_if) | (with_reducible apply x_if) | (with_reducible apply x_and) | (with_reducible apply x_or) | (with_reducible apply x_not) | (with_reducible apply x_test) | (with_reducible apply x_op2) | (with_reducible apply x_op1) | (with_reducible apply x_callB) | (with_reducible apply x_tup) | (with_reducible apply x_lst) | (with_reducible apply x_met) | (with_reducible apply x_call) | (with_reducible apply y_par2) | (with_reducible apply y_par3) | (with_reducible apply y_unp) | (with_reducible apply y_for) | (with_reducible apply x_rng1) | (with_reducible apply x_rng2) | (with_reducible apply x_seq) | (with_reducible apply x_enum) | (with_reducible apply x_still) | (with_reducible apply x_rgL1) | (with_reducible exact f1) | (with_reducible exact f2) | (with_reducible exact decide_eq_true (by omega)) | (with_reducible exact decide_eq_false (by omega)) | (with_reducible exact f_append (by omega)) | (with_reducible exact small_le (by omega)) | (with_reducible exact f_rng1 (big_of (by omega) (by omega))) | (exact ⟨.inl rfl, rfl⟩) | (exact (rfl : (_ : Bool) = true)) | (exact (rfl : (_ : Bool) = false)) | (rfl))
        · rfl
  -- the words are stored
  have store : ∀ (pot : Ob) (x7 : Option Tv) (w : Dt), w ∈ someD → ∃ tb', GridOk n tb' ∧ sUnp (gT 2 (gConsD (gGrid 5 3 8) (gConsD (gGrid 5 8 3) (gNilD)))) (mVar 9) (doorE pot n b (some (.val (.int i))) rk tb od x7 (some (.val (.int j))) (some (.val w)) x10) = .nx (doorE pot n b (some (.val (.int i))) rk tb' od x7 (some (.val (.int j))) (some (.val w)) x10) := fun pot x7 w hw => by
    obtain ⟨a, c, rfl, ha, hc⟩ := some_pair hw
    obtain ⟨tb', k1, k2⟩ := grid_store (pot := pot) (b := b) (rk := rk) (od := od) (x7 := x7) (x10 := x10) (x9 := some (.val (.tuple [a, c]))) hi hj ht ha hc
    exact ⟨tb', k1, y_unp (x_val rfl) rfl k2⟩
  cases b with
  | true =>
    obtain ⟨r, cs1, m1, t1, g1, g2, g3, g4⟩ := of_ok cs m t 5 hc (by omega)
    have q1 := feqI r 0
    by_cases hr : r = 0
    · obtain ⟨tb', k1, k2⟩ := store (.pot cs1 m1 t1) x7 someD[0] (List.getElem_mem _)
      refine ⟨cs1, m1, t1, tb', x7, some (.val someD[0]), g2, k1, h7, ?_⟩
      unfold b_law_door_2
      refine y_seq hset (y_seq (e1 := doorE (.pot cs1 m1 t1) n true (some (.val (.int i))) rk tb od x7 (some (.val (.int j))) (some (.val someD[0])) x10) ?_ (y_seq ?_ k2))
      · rcases h7 with rfl | rfl
        · apply y_end
          · repeat' (first | (with_reducible assumption) | (with_reducible exact x_dat) | (with_reducible exact x_nil) | (with_reducible exact y_skip) | (with_reducible exact x_retB) | (with_reducible refine x_val ?_; rfl) | (with_reducible refine x_own ?_; rfl) | (with_reducible refine x_io ?_; rfl) | (with_reducible apply x_cons) | (with_reducible apply z_T) | (with_reducible apply z_F) | (with_reducible apply y_seq) | (with_reducible apply y_set) | (with_reducible apply y_expr) | (with_reducible apply y_ret) | (with_reducible apply y_if) | (with_reducible apply x_if) | (with_reducible apply x_and) | (with_reducible apply x_or) | (with_reducible apply x_not) | (with_reducible apply x_test) | (with_reducible apply x_op2) | (with_reducible apply x_op1) | (with_reducible apply x_callB) | (with_reducible apply x_tup) | (with_reducible apply x_lst) | (with_reducible apply x_met) | (with_reducible apply x_call) | (with_reducible apply y_par2) | (with_reducible apply y_par3) | (with_reducible apply y_unp) | (with_reducible apply y_for) | (with_reducible apply x_rng1) | (with_reducible apply x_rng2) | (with_reducible apply x_seq) | (with_reducible apply x_enum) | (with_reducible apply x_still) | (with_reducible apply x_rgL1) | (with_reducible exact g1) | (with_reducible exact q1) | (with_reducible exact decide_eq_true (by omega)) | (with_reducible exact decide_eq_false (by omega)) | (with_reducible exact f_append (by omega)) | (with_reducible exact small_le (by omega)) | (with_reducible exact f_rng1 (big_of (by omega) (by omega))) | (exact ⟨.inl rfl, rfl⟩) | (exact (rfl : (_ : Bool) = true)) | (exact (rfl : (_ : Bool) = false)) | (rfl))
          · rfl
        · apply y_end
          · repeat' (first | (with_reducible assumption) | (with_reducible exact x_dat) | (with_reducible exact x_nil) | (with_reducible exact y_skip) | (with_reducible exact x_retB) | (with_reducible refine x_val ?_; rfl) | (with_reducible refine x_own ?_; rfl) | (with_reducible refine x_io ?_; rfl) | (with_reducible apply x_cons) | (with_reducible apply z_T) | (with_reducible apply z_F) | (with_reducible apply y_seq) | (with_reducible apply y_set) | (with_reducible apply y_expr) | (with_reducible apply y_ret) | (with_reducible apply y_if) | (with_reducible apply x_if) | (with_reducible apply x_and) | (with_reducible apply x_or) | (with_reducible apply x_not) | (with_reducible apply x_test) | (with_reducible apply x_op2) | (with_reducible apply x_op1) | (with_reducible apply x_callB) | (with_reducible apply x_tup) | (with_reducible apply x_lst) | (with_reducible apply x_met) | (with_reducible apply x_call) | (with_reducible apply y_par2) | (with_reducible apply y_par3) | (with_reducible apply y_unp) | (with_reducible apply y_for) | (with_reducible apply x_rng1) | (with_reducible apply x_rng2) | (with_reducible apply x_seq) | (with_reducible apply x_enum) | (with_reducible apply x_still) | (with_reducible apply x_rgL1) | (with_reducible exact g1) | (with_reducible exact q1) | (with_reducible exact decide_eq_true (by omega)) | (with_reducible exact decide_eq_false (by omega)) | (with_reducible exact f_append (by omega)) | (with_reducible exact small_le (by omega)) | (with_reducible exact f_rng1 (big_of (by omega) (by omega))) | (exact ⟨.inl rfl, rfl⟩) | (exact (rfl : (_ : Bool) = true)) | (exact (rfl : (_ : Bool) = false)) | (rfl))
          · rfl
      · apply y_end
        · repeat' (first | (with_reducible assumption) | (with_reducible exact x_dat) | (with_reducible exact x_nil) | (with_reducible exact y_skip) | (with_reducible exact x_retB) | (with_reducible refine x_val ?_; rfl) | (with_reducible refine x_own ?_; rfl) | (with_reducible refine x_io ?_; rfl) | (with_reducible apply x_cons) | (with_reducible apply z_T) | (with_reducible apply z_F) | (with_reducible apply y_seq) | (with_reducible apply y_set) | (with_reducible apply y_expr) | (with_reducible apply y_ret) | (with_reducible apply y_if) | (with_reducible apply x_if) | (with_reducible apply x_and) | (with_reducible apply x_or) | (with_reducible apply x_not) | (with_reducible apply x_test) | (with_reducible apply x_op2) | (with_reducible apply x_op1) | (with_reducible apply x_callB) | (with_reducible apply x_tup) | (with_reducible apply x_lst) | (with_reducible apply x_met) | (with_reducible apply x_call) | (with_reducible apply y_par2) | (with_reducible apply y_par3) | (with_reducible apply y_unp) | (with_reducible apply y_for) | (with_reducible apply x_rng1) | (with_reducible apply x_rng2) | (with_reducible apply x_seq) | (with_reducible apply x_enum) | (with_reducible apply x_still) | (with_reducible apply x_rgL1) | (with_reducible exact decide_eq_true (by omega)) | (with_reducible exact decide_eq_false (by omega)) | (with_reducible exact f_append (by omega)) | (with_reducible exact small_le (by omega)) | (with_reducible exact f_rng1 (big_of (by omega) (by omega))) | (exact ⟨.inl rfl, rfl⟩) | (exact (rfl : (_ : Bool) = true)) | (exact (rfl : (_ : Bool) = false)) | (rfl))
        · rfl
    · obtain ⟨tb', k1, k2⟩ := store (.pot cs1 m1 t1) x7 w hw
      refine ⟨cs1, m1, t1, tb', x7, some (.val w), g2, k1, h7, ?_⟩
      unfold b_law_door_2
      refine y_seq hset (y_seq (e1 := doorE (.pot cs1 m1 t1) n true (some (.val (.int i))) rk tb od x7 (some (.val (.int j))) (some (.val w)) x10) ?_ (y_seq ?_ k2))
      · apply y_end
        · repeat' (first | (with_reducible assumption) | (with_reducible exact x_dat) | (with_reducible exact x_nil) | (with_reducible exact y_skip) | (with_reducible exact x_retB) | (with_reducible refine x_val ?_; rfl) | (with_reducible refine x_own ?_; rfl) | (with_reducible refine x_io ?_; rfl) | (with_reducible apply x_cons) | (with_reducible apply z_T) | (with_reducible apply z_F) | (with_reducible apply y_seq) | (with_reducible apply y_set) | (with_reducible apply y_expr) | (with_reducible apply y_ret) | (with_reducible apply y_if) | (with_reducible apply x_if) | (with_reducible apply x_and) | (with_reducible apply x_or) | (with_reducible apply x_not) | (with_reducible apply x_test) | (with_reducible apply x_op2) | (with_reducible apply x_op1) | (with_reducible apply x_callB) | (with_reducible apply x_tup) | (with_reducible apply x_lst) | (with_reducible apply x_met) | (with_reducible apply x_call) | (with_reducible apply y_par2) | (with_reducible apply y_par3) | (with_reducible apply y_unp) | (with_reducible apply y_for) | (with_reducible apply x_rng1) | (with_reducible apply x_rng2) | (with_reducible apply x_seq) | (with_reducible apply x_enum) | (with_reducible apply x_still) | (with_reducible apply x_rgL1) | (with_reducible exact g1) | (with_reducible exact q1) | (with_reducible exact decide_eq_true (by omega)) | (with_reducible exact decide_eq_false (by omega)) | (with_reducible exact f_append (by omega)) | (with_reducible exact small_le (by omega)) | (with_reducible exact f_rng1 (big_of (by omega) (by omega))) | (exact ⟨.inl rfl, rfl⟩) | (exact (rfl : (_ : Bool) = true)) | (exact (rfl : (_ : Bool) = false)) | (rfl))
        · rfl
      · apply y_end
        · repeat' (first | (with_reducible assumption) | (with_reducible exact x_dat) | (with_reducible exact x_nil) | (with_reducible exact y_skip) | (with_reducible exact x_retB) | (with_reducible refine x_val ?_; rfl) | (with_reducible refine x_own ?_; rfl) | (with_reducible refine x_io ?_; rfl) | (with_reducible apply x_cons) | (with_reducible apply z_T) | (with_reducible apply z_F) | (with_reducible apply y_seq) | (with_reducible apply y_set) | (with_reducible apply y_expr) | (with_reducible apply y_ret) | (with_reducible apply y_if) | (with_reducible apply x_if) | (with_reducible apply x_and) | (with_reducible apply x_or) | (with_reducible apply x_not) | (with_reducible apply x_test) | (with_reducible apply x_op2) | (with_reducible apply x_op1) | (with_reducible apply x_callB) | (with_reducible apply x_tup) | (with_reducible apply x_lst) | (with_reducible apply x_met) | (with_reducible apply x_call) | (with_reducible apply y_par2) | (with_reducible apply y_par3) | (with_reducible apply y_unp) | (with_reducible apply y_for) | (with_reducible apply x_rng1) | (with_reducible apply x_rng2) | (with_reducible apply x_seq) | (with_reducible apply x_enum) | (with_reducible apply x_still) | (with_reducible apply x_rgL1) | (with_reducible exact decide_eq_true (by omega)) | (with_reducible exact decide_eq_false (by omega)) | (with_reducible exact f_append (by omega)) | (with_reducible exact small_le (by omega)) | (with_reducible exact f_rng1 (big_of (by omega) (by omega))) | (exact ⟨.inl rfl, rfl⟩) | (exact (rfl : (_ : Bool) = true)) | (exact (rfl : (_ : Bool) = false)) | (rfl))
        · rfl
  | false =>
    obtain ⟨w', cs1, m1, t1, g1, g2, g3⟩ := one_ok cs m t someD hc (by unfold someD; simp) (by show 5 < 1073741824; decide)
    obtain ⟨tb', k1, k2⟩ := store (.pot cs1 m1 t1) (some (.val (.list someD))) w' g3
    refine ⟨cs1, m1, t1, tb', some (.val (.list someD)), some (.val w'), g2, k1, .inr rfl, ?_⟩
    unfold b_law_door_2
    refine y_seq hset (y_seq (e1 := doorE (.pot cs m t) n false (some (.val (.int i))) rk tb od x7 (some (.val (.int j))) (some (.val w)) x10) ?_ (y_seq ?_ k2))
    · apply y_end
      · repeat' (first | (with_reducible assumption) | (with_reducible exact x_dat) | (with_reducible exact x_nil) | (with_reducible exact y_skip) | (with_reducible exact x_retB) | (with_reducible refine x_val ?_; rfl) | (with_reducible refine x_own ?_; rfl) | (with_reducible refine x_io ?_; rfl) | (with_reducible apply x_cons) | (with_reducible apply z_T) | (with_reducible apply z_F) | (with_reducible apply y_seq) | (with_reducible apply y_set) | (with_reducible apply y_expr) | (with_reducible apply y_ret) | (with_reducible apply y_if) | (with_reducible apply x_if) | (with_reducible apply x_and) | (with_reducible apply x_or) | (with_reducible apply x_not) | (with_reducible apply x_test) | (with_reducible apply x_op2) | (with_reducible apply x_op1) | (with_reducible apply x_callB) | (with_reducible apply x_tup) | (with_reducible apply x_lst) | (with_reducible apply x_met) | (with_reducible apply x_call) | (with_reducible apply y_par2) | (with_reducible apply y_par3) | (with_reducible apply y_unp) | (with_reducible apply y_for) | (with_reducible apply x_rng1) | (with_reducible apply x_rng2) | (with_reducible apply x_seq) | (with_reducible apply x_enum) | (with_reducible apply x_still) | (with_reducible apply x_rgL1) | (with_reducible exact decide_eq_true (by omega)) | (with_reducible exact decide_eq_false (by omega)) | (with_reducible exact f_append (by omega)) | (with_reducible exact small_le (by omega)) | (with_reducible exact f_rng1 (big_of (by omega) (by omega))) | (exact ⟨.inl rfl, rfl⟩) | (exact (rfl : (_ : Bool) = true)) | (exact (rfl : (_ : Bool) = false)) | (rfl))
      · rfl
    · rcases h7 with rfl | rfl
      · apply y_end
        · repeat' (first | (with_reducible assumption) | (with_reducible exact x_dat) | (with_reducible exact x_nil) | (with_reducible exact y_skip) | (with_reducible exact x_retB) | (with_reducible refine x_val ?_; rfl) | (with_reducible refine x_own ?_; rfl) | (with_reducible refine x_io ?_; rfl) | (with_reducible apply x_cons) | (with_reducible apply z_T) | (with_reducible apply z_F) | (with_reducible apply y_seq) | (with_reducible apply y_set) | (with_reducible apply y_expr) | (with_reducible apply y_ret) | (with_reducible apply y_if) | (with_reducible apply x_if) | (with_reducible apply x_and) | (with_reducible apply x_or) | (with_reducible apply x_not) | (with_reducible apply x_test) | (with_reducible apply x_op2) | (with_reducible apply x_op1) | (with_reducible apply x_callB) | (with_reducible apply x_tup) | (with_reducible apply x_lst) | (with_reducible apply x_met) | (with_reducible apply x_call) | (with_reducible apply y_par2) | (with_reducible apply y_par3) | (with_reducible apply y_unp) | (with_reducible apply y_for) | (with_reducible apply x_rng1) | (with_reducible apply x_rng2) | (with_reducible apply x_seq) | (with_reducible apply x_enum) | (with_reducible apply x_still) | (with_reducible apply x_rgL1) | (with_reducible exact g1) | (with_reducible exact decide_eq_true (by omega)) | (with_reducible exact decide_eq_false (by omega)) | (with_reducible exact f_append (by omega)) | (with_reducible exact small_le (by omega)) | (with_reducible exact f_rng1 (big_of (by omega) (by omega))) | (exact ⟨.inl rfl, rfl⟩) | (exact (rfl : (_ : Bool) = true)) | (exact (rfl : (_ : Bool) = false)) | (rfl))
        · rfl
      · apply y_end
        · repeat' (first | (with_reducible assumption) | (with_reducible exact x_dat) | (with_reducible exact x_nil) | (with_reducible exact y_skip) | (with_reducible exact x_retB) | (with_reducible refine x_val ?_; rfl) | (with_reducible refine x_own ?_; rfl) | (with_reducible refine x_io ?_; rfl) | (with_reducible apply x_cons) | (with_reducible apply z_T) | (with_reducible apply z_F) | (with_reducible apply y_seq) | (with_reducible apply y_set) | (with_reducible apply y_expr) | (with_reducible apply y_ret) | (with_reducible apply y_if) | (with_reducible apply x_if) | (with_reducible apply x_and) | (with_reducible apply x_or) | (with_reducible apply x_not) | (with_reducible apply x_test) | (with_reducible apply x_op2) | (with_reducible apply x_op1) | (with_reducible apply x_callB) | (with_reducible apply x_tup) | (with_reducible apply x_lst) | (with_reducible apply x_met) | (with_reducible apply x_call) | (with_reducible apply y_par2) | (with_reducible apply y_par3) | (with_reducible apply y_unp) | (with_reducible apply y_for) | (with_reducible apply x_rng1) | (with_reducible apply x_rng2) | (with_reducible apply x_seq) | (with_reducible apply x_enum) | (with_reducible apply x_still) | (with_reducible apply x_rgL1) | (with_reducible exact g1) | (with_reducible exact decide_eq_true (by omega)) | (with_reducible exact decide_eq_false (by omega)) | (with_reducible exact f_append (by omega)) | (with_reducible exact small_le (by omega)) | (with_reducible exact f_rng1 (big_of (by omega) (by omega))) | (exact ⟨.inl rfl, rfl⟩) | (exact (rfl : (_ : Bool) = true)) | (exact (rfl : (_ : Bool) = false)) | (rfl))
        · rfl
end KD


namespace KD
open PySem PySem.Spec L2 VL
open PyProof.Rows hiding St
def others (n i : Nat) : List Dt := ((List.range n).filter fun k => decide (k ≠ i)).map fun (k : Nat) => PyData.int (k : Int)
def doorLike (n : Nat) (d : Dt) : Prop := ∃ rows orders, d = .tuple [.tuple (rows.map PyData.tuple), .tuple orders] ∧ GridOk n rows ∧ orders.length = n ∧ ∀ i o, orders[i]? = some o → ∃ es, o = PyData.tuple es ∧ List.Perm es (others n i)
theorem f_rgL {n : Nat} (h : n ≤ 1000000) : fRgL 0 (n : Int) = some (.own (.lst (rgs 0 n))) := by
  have e : ((n : Int) - 0).toNat = n := by omega
  unfold fRgL
  rw [e]
  exact if_pos ⟨by decide, big_nat h, small_le h⟩
theorem f_rngN {n : Nat} (h : n ≤ 1000000) : rngOf1 [.int (n : Int)] = some (rgs 0 n) := f_rng1 (big_nat h)
theorem f_mulL {xs : List Dt} {n : Nat} (h : xs.length * n ≤ 1000000) (h2 : n ≤ 1000000) : fMul (.list xs) (.int (n : Int)) = some (.own (.lst (List.replicate n xs).flatten)) := by
  have e : (n : Int).toNat = n := by omega
  show (if big62 (n : Int) = true ∧ small (xs.length * (n : Int).toNat) = true then some (Tv.own (.lst (List.replicate (n : Int).toNat xs).flatten)) else none) = _
  rw [e]
  exact if_pos ⟨big_nat h2, small_le h⟩
theorem rep_one (n : Nat) (d : Dt) : (List.replicate n [d]).flatten = List.replicate n d := by
  induction n with
  | zero => rfl
  | succ n ih => rw [List.replicate_succ, List.flatten_cons, ih]; rfl
theorem rgs_len (n : Nat) : (rgs 0 n).length = n := rgs_length
theorem rgs_int {n : Nat} {d : Dt} (h : d ∈ rgs 0 n) : intLike d = true := by
  obtain ⟨i, _, rfl⟩ := rgs_mem h
  rfl
theorem rgs_at {n i : Nat} {d : Dt} (h : (rgs 0 n)[i]? = some d) : d = .int (i : Int) ∧ i < n := by
  obtain ⟨e, h2⟩ := rgs_get h
  rw [Int.zero_add] at e
  exact ⟨e, h2⟩
theorem door_table (pot : Ob) (n : Nat) (b : Bool) (x4 x5 x6 x7 x8 x9 x10 : Option Tv) (hn : n ≤ 1000) :
    ∃ tb, GridOk n tb ∧ l_law_door_1 [some (.io pot), some (.val (.int n)), some (.val (.bool b)), none, x4, x5, x6, x7, x8, x9, x10] = .ok (.tmp (.own (.grid tb))) [some (.io pot), some (.val (.int n)), some (.val (.bool b)), none, x4, x5, x6, x7, x8, x9, x10] := by
  have fm := f_mulL (xs := [.str ("-" : Str)]) (n := n) (by show 1 * n ≤ _; omega) (by omega)
  obtain ⟨acc, e', h1, x3, rfl, h2, h3⟩ := itLG_eq (g := gN 3) (t := M.ret true) (m := mOp2 fMul (mLst (mCons (mDat (.str ("-" : Str))) (M.ret []))) (mVar 1)) (vs := [3]) (all := rgs 0 n)
    (fun i acc e => ∃ x3, e = [some (.io pot), some (.val (.int n)), some (.val (.bool b)), x3, x4, x5, x6, x7, x8, x9, x10] ∧ acc.length = i ∧ ∀ row ∈ acc, row.length = n ∧ ∀ d ∈ row, isWord d)
    (rgs 0 n) [] [some (.io pot), some (.val (.int n)), some (.val (.bool b)), none, x4, x5, x6, x7, x8, x9, x10] 0 ⟨none, rfl, rfl, fun r h => nomatch h⟩ (by
      rintro i d acc e hi ⟨x3, rfl, h1, h2⟩
      rw [Nat.zero_add] at h1 ⊢
      obtain ⟨rfl, hlt⟩ := rgs_at hi
      refine ⟨[some (.io pot), some (.val (.int n)), some (.val (.bool b)), some (.val (.int i)), x4, x5, x6, x7, x8, x9, x10], [some (.io pot), some (.val (.int n)), some (.val (.bool b)), some (.val (.int i)), x4, x5, x6, x7, x8, x9, x10], List.replicate n (.str ("-" : Str)), [some (.io pot), some (.val (.int n)), some (.val (.bool b)), some (.val (.int i)), x4, x5, x6, x7, x8, x9, x10], rfl, rfl, ?_, by omega, _, rfl, by rw [List.length_append, List.length_singleton]; omega, fun row hr => ?_⟩
      · rw [← rep_one]
        repeat' (first | (with_reducible assumption) | (with_reducible exact x_dat) | (with_reducible exact x_nil) | (with_reducible exact y_skip) | (with_reducible exact x_retB) | (with_reducible refine x_val ?_; rfl) | (with_reducible refine x_own ?_; rfl) | (with_reducible refine x_io ?_; rfl) | (with_reducible apply x_cons) | (with_reducible apply z_T) | (with_reducible apply z_F) | (with_reducible apply y_seq) | (with_reducible apply y_set) | (with_reducible apply y_expr) | (with_reducible apply y_ret) | (with_reducible apply y_if) | (with_reducible apply x_if) | (with_reducible apply x_and) | (with_reducible apply x_or) | (with_reducible apply x_not) | (with_reducible apply x_test) | (with_reducible apply x_op2) | (with_reducible apply x_op1) | (with_reducible apply x_callB) | (with_reducible apply x_tup) | (with_reducible apply x_lst) | (with_reducible apply x_met) | (with_reducible apply x_call) | (with_reducible apply y_par2) | (with_reducible apply y_par3) | (with_reducible apply y_unp) | (with_reducible apply y_for) | (with_reducible apply x_rng1) | (with_reducible apply x_rng2) | (with_reducible apply x_seq) | (with_reducible apply x_enum) | (with_reducible apply x_still) | (with_reducible apply x_rgL1) | (with_reducible exact fm) | (with_reducible exact decide_eq_true (by omega)) | (with_reducible exact decide_eq_false (by omega)) | (with_reducible exact f_append (by omega)) | (with_reducible exact small_le (by omega)) | (with_reducible exact f_rng1 (big_of (by omega) (by omega))) | (exact ⟨.inl rfl, rfl⟩) | (exact (rfl : (_ : Bool) = true)) | (exact (rfl : (_ : Bool) = false)) | (rfl))
      · rcases List.mem_append.mp hr with q | q
        · exact h2 row q
        · rw [List.mem_singleton.mp q]
          exact ⟨List.length_replicate, fun d hd => .inl (List.eq_of_mem_replicate hd)⟩)
  rw [Nat.zero_add, rgs_len] at h2
  refine ⟨acc, ⟨h2, h3⟩, ?_⟩
  refine x_lcG (mi := still (iRng1 (mCons (mVar 1) (M.ret [])))) (ds := rgs 0 n) (e1 := [some (.io pot), some (.val (.int n)), some (.val (.bool b)), none, x4, x5, x6, x7, x8, x9, x10]) (x_still (x_rng1 (x_cons (x_val rfl) x_nil) rfl (f_rngN (by omega)))) rfl h1
theorem door_others (pot : Ob) (n i : Nat) (b : Bool) (x4 x5 x6 x7 x8 x9 x10 : Option Tv) (hn : n ≤ 1000) (h8 : x8 = none ∨ ∃ d, x8 = some (.val d)) :
    l_law_door_4 [some (.io pot), some (.val (.int n)), some (.val (.bool b)), some (.val (.int i)), x4, x5, x6, x7, x8, x9, x10] = .ok (.tmp (.own (.lst (others n i)))) [some (.io pot), some (.val (.int n)), some (.val (.bool b)), some (.val (.int i)), x4, x5, x6, x7, x8, x9, x10] := by
  obtain ⟨acc, e', h1, y8, rfl, h2, _⟩ := itL_eq (g := gN 8) (t := mTest (mOp2 fNe (mVar 8) (mVar 3))) (m := mVar 8) (vs := [8]) (all := rgs 0 n)
    (fun k acc e => ∃ y8, e = [some (.io pot), some (.val (.int n)), some (.val (.bool b)), some (.val (.int i)), x4, x5, x6, x7, y8, x9, x10] ∧ acc = ((List.range k).filter fun k => decide (k ≠ i)).map (fun (k : Nat) => PyData.int (k : Int)) ∧ acc.length ≤ k)
    (rgs 0 n) [] [some (.io pot), some (.val (.int n)), some (.val (.bool b)), some (.val (.int i)), x4, x5, x6, x7, x8, x9, x10] 0 ⟨x8, rfl, rfl, Nat.le_refl _⟩ (by
      rintro k d acc e hk ⟨y8, rfl, h1, h2⟩
      rw [Nat.zero_add] at h1 h2 ⊢
      obtain ⟨rfl, hlt⟩ := rgs_at hk
      have q := fneI (k : Int) (i : Int)
      by_cases hki : k = i
      · subst hki
        have hz : (!decide ((k : Int) = (k : Int))) = false := by simp
        refine ⟨[some (.io pot), some (.val (.int n)), some (.val (.bool b)), some (.val (.int k)), x4, x5, x6, x7, some (.val (.int k)), x9, x10], rfl, .inl ⟨[some (.io pot), some (.val (.int n)), some (.val (.bool b)), some (.val (.int k)), x4, x5, x6, x7, some (.val (.int k)), x9, x10], ?_, _, rfl, ?_, by omega⟩⟩
        · rw [← hz]
          repeat' (first | (with_reducible assumption) | (with_reducible exact x_dat) | (with_reducible exact x_nil) | (with_reducible exact y_skip) | (with_reducible exact x_retB) | (with_reducible refine x_val ?_; rfl) | (with_reducible refine x_own ?_; rfl) | (with_reducible refine x_io ?_; rfl) | (with_reducible apply x_cons) | (with_reducible apply z_T) | (with_reducible apply z_F) | (with_reducible apply y_seq) | (with_reducible apply y_set) | (with_reducible apply y_expr) | (with_reducible apply y_ret) | (with_reducible apply y_if) | (with_reducible apply x_if) | (with_reducible apply x_and) | (with_reducible apply x_or) | (with_reducible apply x_not) | (with_reducible apply x_test) | (with_reducible apply x_op2) | (with_reducible apply x_op1) | (with_reducible apply x_callB) | (with_reducible apply x_tup) | (with_reducible apply x_lst) | (with_reducible apply x_met) | (with_reducible apply x_call) | (with_reducible apply y_par2) | (with_reducible apply y_par3) | (with_reducible apply y_unp) | (with_reducible apply y_for) | (with_reducible apply x_rng1) | (with_reducible apply x_rng2) | (with_reducible apply x_seq) | (with_reducible apply x_enum) | (with_reducible apply x_still) | (with_reducible apply x_rgL1) | (with_reducible exact q) | (with_reducible exact decide_eq_true (by omega)) | (with_reducible exact decide_eq_false (by omega)) | (with_reducible exact f_append (by omega)) | (with_reducible exact small_le (by omega)) | (with_reducible exact f_rng1 (big_of (by omega) (by omega))) | (exact ⟨.inl rfl, rfl⟩) | (exact (rfl : (_ : Bool) = true)) | (exact (rfl : (_ : Bool) = false)) | (rfl))
        · rw [h1, List.range_succ, List.filter_append]
          simp
      · have hz : (!decide ((k : Int) = (i : Int))) = true := by simp; omega
        refine ⟨[some (.io pot), some (.val (.int n)), some (.val (.bool b)), some (.val (.int i)), x4, x5, x6, x7, some (.val (.int k)), x9, x10], rfl, .inr ⟨[some (.io pot), some (.val (.int n)), some (.val (.bool b)), some (.val (.int i)), x4, x5, x6, x7, some (.val (.int k)), x9, x10], .tmp (.val (.int k)), [some (.io pot), some (.val (.int n)), some (.val (.bool b)), some (.val (.int i)), x4, x5, x6, x7, some (.val (.int k)), x9, x10], .int k, [some (.io pot), some (.val (.int n)), some (.val (.bool b)), some (.val (.int i)), x4, x5, x6, x7, some (.val (.int k)), x9, x10], ?_, x_val rfl, rfl, by omega, _, rfl, ?_, by rw [List.length_append, List.length_singleton]; omega⟩⟩
        · rw [← hz]
          repeat' (first | (with_reducible assumption) | (with_reducible exact x_dat) | (with_reducible exact x_nil) | (with_reducible exact y_skip) | (with_reducible exact x_retB) | (with_reducible refine x_val ?_; rfl) | (with_reducible refine x_own ?_; rfl) | (with_reducible refine x_io ?_; rfl) | (with_reducible apply x_cons) | (with_reducible apply z_T) | (with_reducible apply z_F) | (with_reducible apply y_seq) | (with_reducible apply y_set) | (with_reducible apply y_expr) | (with_reducible apply y_ret) | (with_reducible apply y_if) | (with_reducible apply x_if) | (with_reducible apply x_and) | (with_reducible apply x_or) | (with_reducible apply x_not) | (with_reducible apply x_test) | (with_reducible apply x_op2) | (with_reducible apply x_op1) | (with_reducible apply x_callB) | (with_reducible apply x_tup) | (with_reducible apply x_lst) | (with_reducible apply x_met) | (with_reducible apply x_call) | (with_reducible apply y_par2) | (with_reducible apply y_par3) | (with_reducible apply y_unp) | (with_reducible apply y_for) | (with_reducible apply x_rng1) | (with_reducible apply x_rng2) | (with_reducible apply x_seq) | (with_reducible apply x_enum) | (with_reducible apply x_still) | (with_reducible apply x_rgL1) | (with_reducible exact q) | (with_reducible exact decide_eq_true (by omega)) | (with_reducible exact decide_eq_false (by omega)) | (with_reducible exact f_append (by omega)) | (with_reducible exact small_le (by omega)) | (with_reducible exact f_rng1 (big_of (by omega) (by omega))) | (exact ⟨.inl rfl, rfl⟩) | (exact (rfl : (_ : Bool) = true)) | (exact (rfl : (_ : Bool) = false)) | (rfl))
        · rw [h1, List.range_succ, List.filter_append]
          simp [hki])
  rw [Nat.zero_add, rgs_len] at h2
  have e : others n i = acc := h2.symm
  rw [e]
  have hpl : ([8].all fun v => VL.plain [some (.io pot), some (.val (.int n)), some (.val (.bool b)), some (.val (.int i)), x4, x5, x6, x7, x8, x9, x10] v) = true := by
    rcases h8 with rfl | ⟨d, rfl⟩ <;> rfl
  have hb : back [some (.io pot), some (.val (.int n)), some (.val (.bool b)), some (.val (.int i)), x4, x5, x6, x7, x8, x9, x10] [some (.io pot), some (.val (.int n)), some (.val (.bool b)), some (.val (.int i)), x4, x5, x6, x7, y8, x9, x10] [8] = [some (.io pot), some (.val (.int n)), some (.val (.bool b)), some (.val (.int i)), x4, x5, x6, x7, x8, x9, x10] := rfl
  have := x_lc (mi := still (iRng1 (mCons (mVar 1) (M.ret [])))) (ds := rgs 0 n) (e1 := [some (.io pot), some (.val (.int n)), some (.val (.bool b)), some (.val (.int i)), x4, x5, x6, x7, x8, x9, x10]) (x_still (x_rng1 (x_cons (x_val rfl) x_nil) rfl (f_rngN (by omega)))) hpl h1
  rw [hb] at this
  exact this
end KD


namespace KD
open PySem PySem.Spec L2 VL
open PyProof.Rows hiding St
def S7 (x7 : Option Tv) : Prop := x7 = some (.own (.lst someD)) ∨ x7 = some (.val (.list someD))
theorem door_row (n : Nat) (b : Bool) (rk od : List Dt) (i : Nat) (hi : i < n) (hn : n ≤ 1000) (hrk : rk.length = n ∧ ∀ d ∈ rk, intLike d = true) (cs : List Int) (m t : Int) (tb : List (List Dt)) (x7 x8 x9 : Option Tv) (hc : cs.length ≤ 63) (ht : GridOk n tb) (h7 : S7 x7) :
    ∃ cs' m' t' tb' x7' x8' x9', cs'.length ≤ 63 ∧ GridOk n tb' ∧ S7 x7' ∧ (x8' = x8 ∨ ∃ d, x8' = some (.val d)) ∧
      b_law_door_3 (doorE (.pot cs m t) n b (some (.val (.int i))) rk tb od x7 x8 x9 none) = .nx (doorE (.pot cs' m' t') n b (some (.val (.int i))) rk tb' od x7' x8' x9' none) := by
  obtain ⟨e', h1, cs', m', t', tb', x7', x8', x9', rfl, h2, h3, h4, h5⟩ := for_eq (g := gN 8) (b := b_law_door_2)
    (fun k e => ∃ cs m t tb x7 y8 x9, e = doorE (.pot cs m t) n b (some (.val (.int i))) rk tb od x7 y8 x9 none ∧ cs.length ≤ 63 ∧ GridOk n tb ∧ S7 x7 ∧ (y8 = x8 ∨ ∃ d, y8 = some (.val d)))
    (rgs 0 i) (doorE (.pot cs m t) n b (some (.val (.int i))) rk tb od x7 x8 x9 none) 0 ⟨cs, m, t, tb, x7, x8, x9, rfl, hc, ht, h7, .inl rfl⟩ (by
      rintro k d e hk ⟨cs, m, t, tb, x7, y8, x9, rfl, hc, ht, h7, h8⟩
      obtain ⟨rfl, hlt⟩ := rgs_at hk
      obtain ⟨cs', m', t', tb', x7', x9', g1, g2, g3, g4⟩ := door_step cs m t n b rk od tb x7 none x9 i k hc hi (by omega) ht hrk h7
      exact ⟨_, _, rfl, g4, _, _, _, _, _, _, _, rfl, g1, g2, g3, .inr ⟨_, rfl⟩⟩)
  refine ⟨cs', m', t', tb', x7', x8', x9', h2, h3, h4, h5, ?_⟩
  unfold b_law_door_3
  exact y_for (x_rng1 (x_cons (x_val rfl) x_nil) rfl (f_rngN (by omega))) h1
theorem others_flat {n i : Nat} {d : Dt} (h : d ∈ others n i) : intLike d = true := by
  unfold others at h
  obtain ⟨k, _, rfl⟩ := List.mem_map.mp h
  rfl
theorem others_len (n i : Nat) : (others n i).length ≤ n := by
  unfold others
  rw [List.length_map]
  exact Nat.le_trans (List.length_filter_le _ _) (by rw [List.length_range]; exact Nat.le_refl _)
theorem door_order (n : Nat) (b : Bool) (rk od : List Dt) (i : Nat) (hn : n ≤ 900) (cs : List Int) (m t : Int) (tb : List (List Dt)) (x7 x8 x9 : Option Tv) (hc : cs.length ≤ 63) (h8 : x8 = none ∨ ∃ d, x8 = some (.val d)) (hod : od.length ≤ 1000) :
    ∃ cs' m' t' es, cs'.length ≤ 63 ∧ List.Perm es (others n i) ∧
      b_law_door_5 (doorE (.pot cs m t) n b (some (.val (.int i))) rk tb od x7 x8 x9 none) = .nx (doorE (.pot cs' m' t') n b (some (.val (.int i))) rk tb (od ++ [.tuple es]) x7 x8 x9 none) := by
  have h1 := door_others (.pot cs m t) n i b (some (.own (.lst rk))) (some (.own (.grid tb))) (some (.own (.lst od))) x7 x8 x9 none (by omega) h8
  have hl := others_len n i
  obtain ⟨es, cs', m', t', g1, g2, g3⟩ := mixed_ok cs m t (others n i) hc (by omega) (fun d hd => flat_int (others_flat hd))
  refine ⟨cs', m', t', es, g2, g3, ?_⟩
  unfold b_law_door_5
  apply y_end
  · repeat' (first | (with_reducible assumption) | (with_reducible exact x_dat) | (with_reducible exact x_nil) | (with_reducible exact y_skip) | (with_reducible exact x_retB) | (with_reducible refine x_val ?_; rfl) | (with_reducible refine x_own ?_; rfl) | (with_reducible refine x_io ?_; rfl) | (with_reducible apply x_cons) | (with_reducible apply z_T) | (with_reducible apply z_F) | (with_reducible apply y_seq) | (with_reducible apply y_set) | (with_reducible apply y_expr) | (with_reducible apply y_ret) | (with_reducible apply y_if) | (with_reducible apply x_if) | (with_reducible apply x_and) | (with_reducible apply x_or) | (with_reducible apply x_not) | (with_reducible apply x_test) | (with_reducible apply x_op2) | (with_reducible apply x_op1) | (with_reducible apply x_callB) | (with_reducible apply x_tup) | (with_reducible apply x_lst) | (with_reducible apply x_met) | (with_reducible apply x_call) | (with_reducible apply y_par2) | (with_reducible apply y_par3) | (with_reducible apply y_unp) | (with_reducible apply y_for) | (with_reducible apply x_rng1) | (with_reducible apply x_rng2) | (with_reducible apply x_seq) | (with_reducible apply x_enum) | (with_reducible apply x_still) | (with_reducible apply x_rgL1) | (with_reducible exact h1) | (with_reducible exact g1) | (with_reducible exact decide_eq_true (by omega)) | (with_reducible exact decide_eq_false (by omega)) | (with_reducible exact f_append (by omega)) | (with_reducible exact small_le (by omega)) | (with_reducible exact f_rng1 (big_of (by omega) (by omega))) | (exact ⟨.inl rfl, rfl⟩) | (exact (rfl : (_ : Bool) = true)) | (exact (rfl : (_ : Bool) = false)) | (rfl))
  · rfl
theorem door_rows (pot : Ob) (n : Nat) (b : Bool) (rk od : List Dt) (tb : List (List Dt)) (x3 x7 x8 x9 : Option Tv) (hl : tb.length ≤ 1000) :
    l_law_door_6 (doorE pot n b x3 rk tb od x7 x8 x9 none) = .ok (.tmp (.own (.lst (tb.map PyData.tuple)))) [some (.io pot), some (.val (.int n)), some (.val (.bool b)), x3, some (.own (.lst rk)), some (.val (.list (tb.map PyData.list))), some (.own (.lst od)), x7, x8, x9, none] := by
  obtain ⟨acc, e', h1, x10, rfl, h2⟩ := itL_eq (g := gN 10) (t := M.ret true) (m := mCallB fTuple (mCons (mVar 10) (M.ret []))) (vs := [10]) (all := tb.map PyData.list)
    (fun k acc e => ∃ x10, e = [some (.io pot), some (.val (.int n)), some (.val (.bool b)), x3, some (.own (.lst rk)), some (.val (.list (tb.map PyData.list))), some (.own (.lst od)), x7, x8, x9, x10] ∧ acc = (tb.take k).map PyData.tuple)
    (tb.map PyData.list) [] [some (.io pot), some (.val (.int n)), some (.val (.bool b)), x3, some (.own (.lst rk)), some (.val (.list (tb.map PyData.list))), some (.own (.lst od)), x7, x8, x9, none] 0 ⟨none, rfl, rfl⟩ (by
      rintro k d acc e hk ⟨x10, rfl, h1⟩
      rw [Nat.zero_add] at h1 ⊢
      rw [List.getElem?_map] at hk
      simp only [Option.map_eq_some_iff] at hk
      obtain ⟨row, hr, rfl⟩ := hk
      refine ⟨_, rfl, .inr ⟨_, .tmp (.val (.tuple row)), [some (.io pot), some (.val (.int n)), some (.val (.bool b)), x3, some (.own (.lst rk)), some (.val (.list (tb.map PyData.list))), some (.own (.lst od)), x7, x8, x9, some (.val (.list row))], .tuple row, _, rfl, ?_, rfl, ?_, _, rfl, ?_⟩⟩
      · repeat' (first | (with_reducible assumption) | (with_reducible exact x_dat) | (with_reducible exact x_nil) | (with_reducible exact y_skip) | (with_reducible exact x_retB) | (with_reducible refine x_val ?_; rfl) | (with_reducible refine x_own ?_; rfl) | (with_reducible refine x_io ?_; rfl) | (with_reducible apply x_cons) | (with_reducible apply z_T) | (with_reducible apply z_F) | (with_reducible apply y_seq) | (with_reducible apply y_set) | (with_reducible apply y_expr) | (with_reducible apply y_ret) | (with_reducible apply y_if) | (with_reducible apply x_if) | (with_reducible apply x_and) | (with_reducible apply x_or) | (with_reducible apply x_not) | (with_reducible apply x_test) | (with_reducible apply x_op2) | (with_reducible apply x_op1) | (with_reducible apply x_callB) | (with_reducible apply x_tup) | (with_reducible apply x_lst) | (with_reducible apply x_met) | (with_reducible apply x_call) | (with_reducible apply y_par2) | (with_reducible apply y_par3) | (with_reducible apply y_unp) | (with_reducible apply y_for) | (with_reducible apply x_rng1) | (with_reducible apply x_rng2) | (with_reducible apply x_seq) | (with_reducible apply x_enum) | (with_reducible apply x_still) | (with_reducible apply x_rgL1) | (with_reducible exact decide_eq_true (by omega)) | (with_reducible exact decide_eq_false (by omega)) | (with_reducible exact f_append (by omega)) | (with_reducible exact small_le (by omega)) | (with_reducible exact f_rng1 (big_of (by omega) (by omega))) | (exact ⟨.inl rfl, rfl⟩) | (exact (rfl : (_ : Bool) = true)) | (exact (rfl : (_ : Bool) = false)) | (rfl))
      · rw [h1, List.length_map, List.length_take]; omega
      · rw [h1, List.take_add_one, hr, List.map_append]
        rfl)
  rw [Nat.zero_add, List.length_map, List.take_of_length_le (Nat.le_refl _)] at h2
  subst h2
  exact x_lc (mi := still (iSeq (mVar 5))) (ds := tb.map PyData.list) (e1 := [some (.io pot), some (.val (.int n)), some (.val (.bool b)), x3, some (.own (.lst rk)), some (.val (.list (tb.map PyData.list))), some (.own (.lst od)), x7, x8, x9, none]) (x_still (x_seq (x_own rfl) rfl rfl)) rfl h1
end KD


namespace KD
open PySem PySem.Spec L2 VL
open PyProof.Rows hiding St
theorem door_ok (cs : List Int) (m t : Int) (n : Nat) (b : Bool) (hc : cs.length ≤ 63) (hn : n ≤ 900) :
    ∃ d cs' m' t', f_law_door [.io (.pot cs m t), .val (.int n), .val (.bool b)] = .ok (.val d) (some (.pot cs' m' t')) ∧ cs'.length ≤ 63 ∧ doorLike n d := by
  obtain ⟨es, cs1, m1, t1, h1, h2, h3⟩ := mixed_ok cs m t (rgs 0 n) hc (by rw [rgs_len]; omega) (fun d hd => flat_int (rgs_int hd))
  obtain ⟨tb, h4, h5⟩ := door_table (.pot cs1 m1 t1) n b none none none none none none none (by omega)
  have hes : es.length = n ∧ ∀ d ∈ es, intLike d = true := ⟨by rw [h3.length_eq, rgs_len], fun d hd => rgs_int (h3.subset hd)⟩
  have f1 := f_rgL (n := n) (by omega)
  -- the rows
  obtain ⟨_, g1, cs2, m2, t2, tb2, x3, x7, x8, x9, rfl, g2, g3, g4, g5⟩ := for_eq (g := gN 3) (b := b_law_door_3)
    (fun k e => ∃ cs m t tb x3 x7 x8 x9, e = doorE (.pot cs m t) n b x3 es tb [] x7 x8 x9 none ∧ cs.length ≤ 63 ∧ GridOk n tb ∧ S7 x7 ∧ (x8 = none ∨ ∃ d, x8 = some (.val d)))
    (rgs 0 n) (doorE (.pot cs1 m1 t1) n b none es tb [] (some (.own (.lst someD))) none none none) 0 ⟨cs1, m1, t1, tb, none, _, none, none, rfl, h2, h4, .inl rfl, .inl rfl⟩ (by
      rintro k d e hk ⟨cs, m, t, tb, x3, x7, x8, x9, rfl, q1, q2, q3, q4⟩
      obtain ⟨rfl, hlt⟩ := rgs_at hk
      obtain ⟨cs', m', t', tb', x7', x8', x9', p1, p2, p3, p4, p5⟩ := door_row n b es [] k hlt (by omega) hes cs m t tb x7 x8 x9 q1 q2 q3
      refine ⟨_, _, rfl, p5, _, _, _, _, _, _, _, _, rfl, p1, p2, p3, ?_⟩
      rcases p4 with rfl | z
      · exact q4
      · exact .inr z)
  -- the orders
  obtain ⟨_, k1, cs3, m3, t3, od, y3, rfl, k2, k3, k4⟩ := for_eq (g := gN 3) (b := b_law_door_5)
    (fun k e => ∃ cs m t od x3, e = doorE (.pot cs m t) n b x3 es tb2 od x7 x8 x9 none ∧ cs.length ≤ 63 ∧ od.length = k ∧ ∀ i o, od[i]? = some o → ∃ es, o = PyData.tuple es ∧ List.Perm es (others n i))
    (rgs 0 n) (doorE (.pot cs2 m2 t2) n b x3 es tb2 [] x7 x8 x9 none) 0 ⟨cs2, m2, t2, [], x3, rfl, g2, rfl, fun i o h => by simp at h⟩ (by
      rintro k d e hk ⟨cs, m, t, od, x3, rfl, q1, q2, q3⟩
      rw [Nat.zero_add] at q2 ⊢
      obtain ⟨rfl, hlt⟩ := rgs_at hk
      obtain ⟨cs', m', t', es', p1, p2, p3⟩ := door_order n b es od k hn cs m t tb2 x7 x8 x9 q1 g5 (by omega)
      refine ⟨_, _, rfl, p3, _, _, _, _, _, rfl, p1, by rw [List.length_append, List.length_singleton]; omega, fun i o h => ?_⟩
      by_cases hi : i < od.length
      · rw [List.getElem?_append_left hi] at h
        exact q3 i o h
      · rw [List.getElem?_append_right (by omega)] at h
        have e0 : i - od.length = 0 := by
          have := (List.getElem?_eq_some_iff.mp h).1
          simp at this
          omega
        rw [e0] at h
        cases h
        have e1 : i = k := by omega
        subst e1
        exact ⟨es', rfl, p2⟩)
  rw [Nat.zero_add, rgs_len] at k3
  have h6 := door_rows (.pot cs3 m3 t3) n b es od tb2 y3 x7 x8 x9 (by rw [g3.1]; omega)
  refine ⟨.tuple [.tuple (tb2.map PyData.tuple), .tuple od], cs3, m3, t3, ?_, k2, tb2, od, rfl, g3, k3, k4⟩
  unfold f_law_door
  refine fn_rt (m := m_law_door) (n := 11) (np := 3) (r := .tmp (.val (.tuple [.tuple (tb2.map PyData.tuple), .tuple od]))) (e := [some (.io (.pot cs3 m3 t3)), some (.val (.int n)), some (.val (.bool b)), y3, some (.own (.lst es)), some (.val (.list (tb2.map PyData.list))), some (.own (.lst od)), x7, x8, x9, none]) rfl ?_ ?_ ?_
  · unfold m_law_door
    refine y_seq (e1 := doorE (.pot cs1 m1 t1) n b none es tb [] none none none none) ?_ (y_seq (e1 := doorE (.pot cs1 m1 t1) n b none es tb [] (some (.own (.lst someD))) none none none) ?_ (y_seq (y_for (x_rng1 (x_cons (x_val rfl) x_nil) rfl (f_rngN (by omega))) g1) (y_seq (y_for (x_rng1 (x_cons (x_val rfl) x_nil) rfl (f_rngN (by omega))) k1) ?_)))
    · apply y_end
      · repeat' (first | (with_reducible assumption) | (with_reducible exact x_dat) | (with_reducible exact x_nil) | (with_reducible exact y_skip) | (with_reducible exact x_retB) | (with_reducible refine x_val ?_; rfl) | (with_reducible refine x_own ?_; rfl) | (with_reducible refine x_io ?_; rfl) | (with_reducible apply x_cons) | (with_reducible apply z_T) | (with_reducible apply z_F) | (with_reducible apply y_seq) | (with_reducible apply y_set) | (with_reducible apply y_expr) | (with_reducible apply y_ret) | (with_reducible apply y_if) | (with_reducible apply x_if) | (with_reducible apply x_and) | (with_reducible apply x_or) | (with_reducible apply x_not) | (with_reducible apply x_test) | (with_reducible apply x_op2) | (with_reducible apply x_op1) | (with_reducible apply x_callB) | (with_reducible apply x_tup) | (with_reducible apply x_lst) | (with_reducible apply x_met) | (with_reducible apply x_call) | (with_reducible apply y_par2) | (with_reducible apply y_par3) | (with_reducible apply y_unp) | (with_reducible apply y_for) | (with_reducible apply x_rng1) | (with_reducible apply x_rng2) | (with_reducible apply x_seq) | (with_reducible apply x_enum) | (with_reducible apply x_still) | (with_reducible apply x_rgL1) | (with_reducible exact f1) | (with_reducible exact h1) | (with_reducible exact ⟨rfl, rfl⟩) | ((with_reducible show l_law_door_1 _ = _); exact h5) | (with_reducible exact decide_eq_true (by omega)) | (with_reducible exact decide_eq_false (by omega)) | (with_reducible exact f_append (by omega)) | (with_reducible exact small_le (by omega)) | (with_reducible exact f_rng1 (big_of (by omega) (by omega))) | (exact ⟨.inl rfl, rfl⟩) | (exact (rfl : (_ : Bool) = true)) | (exact (rfl : (_ : Bool) = false)) | (rfl))
      · rfl
    · apply y_end
      · repeat' (first | (with_reducible assumption) | (with_reducible exact x_dat) | (with_reducible exact x_nil) | (with_reducible exact y_skip) | (with_reducible exact x_retB) | (with_reducible refine x_val ?_; rfl) | (with_reducible refine x_own ?_; rfl) | (with_reducible refine x_io ?_; rfl) | (with_reducible apply x_cons) | (with_reducible apply z_T) | (with_reducible apply z_F) | (with_reducible apply y_seq) | (with_reducible apply y_set) | (with_reducible apply y_expr) | (with_reducible apply y_ret) | (with_reducible apply y_if) | (with_reducible apply x_if) | (with_reducible apply x_and) | (with_reducible apply x_or) | (with_reducible apply x_not) | (with_reducible apply x_test) | (with_reducible apply x_op2) | (with_reducible apply x_op1) | (with_reducible apply x_callB) | (with_reducible apply x_tup) | (with_reducible apply x_lst) | (with_reducible apply x_met) | (with_reducible apply x_call) | (with_reducible apply y_par2) | (with_reducible apply y_par3) | (with_reducible apply y_unp) | (with_reducible apply y_for) | (with_reducible apply x_rng1) | (with_reducible apply x_rng2) | (with_reducible apply x_seq) | (with_reducible apply x_enum) | (with_reducible apply x_still) | (with_reducible apply x_rgL1) | (with_reducible exact decide_eq_true (by omega)) | (with_reducible exact decide_eq_false (by omega)) | (with_reducible exact f_append (by omega)) | (with_reducible exact small_le (by omega)) | (with_reducible exact f_rng1 (big_of (by omega) (by omega))) | (exact ⟨.inl rfl, rfl⟩) | (exact (rfl : (_ : Bool) = true)) | (exact (rfl : (_ : Bool) = false)) | (rfl))
      · rfl
    · repeat' (first | (with_reducible assumption) | (with_reducible exact x_dat) | (with_reducible exact x_nil) | (with_reducible exact y_skip) | (with_reducible exact x_retB) | (with_reducible refine x_val ?_; rfl) | (with_reducible refine x_own ?_; rfl) | (with_reducible refine x_io ?_; rfl) | (with_reducible apply x_cons) | (with_reducible apply z_T) | (with_reducible apply z_F) | (with_reducible apply y_seq) | (with_reducible apply y_set) | (with_reducible apply y_expr) | (with_reducible apply y_ret) | (with_reducible apply y_if) | (with_reducible apply x_if) | (with_reducible apply x_and) | (with_reducible apply x_or) | (with_reducible apply x_not) | (with_reducible apply x_test) | (with_reducible apply x_op2) | (with_reducible apply x_op1) | (with_reducible apply x_callB) | (with_reducible apply x_tup) | (with_reducible apply x_lst) | (with_reducible apply x_met) | (with_reducible apply x_call) | (with_reducible apply y_par2) | (with_reducible apply y_par3) | (with_reducible apply y_unp) | (with_reducible apply y_for) | (with_reducible apply x_rng1) | (with_reducible apply x_rng2) | (with_reducible apply x_seq) | (with_reducible apply x_enum) | (with_reducible apply x_still) | (with_reducible apply x_rgL1) | ((with_reducible show l_law_door_6 _ = _); exact h6) | (with_reducible exact decide_eq_true (by omega)) | (with_reducible exact decide_eq_false (by omega)) | (with_reducible exact f_append (by omega)) | (with_reducible exact small_le (by omega)) | (with_reducible exact f_rng1 (big_of (by omega) (by omega))) | (exact ⟨.inl rfl, rfl⟩) | (exact (rfl : (_ : Bool) = true)) | (exact (rfl : (_ : Bool) = false)) | (rfl))
  · rfl
  · rfl
end KD


namespace KD
open PySem PySem.Spec L2 VL
open PyProof.Rows hiding St
abbrev houE (pot : Ob) (h r : Nat) (s : Int) (b0 b1 : Bool) (k : Int) (fs ws : List Dt) (x7 x8 x9 x10 : Option Tv) : En :=
  [some (.io pot), some (.val (.int h)), some (.val (.int r)), some (.val (.int s)), some (.val (.tuple [.bool b0, .bool b1, .int k])), some (.own (.lst fs)), some (.own (.lst ws)), x7, x8, x9, x10]
theorem fLtI (a b : Int) : fLt (.int a) (.int b) = some (.val (.bool (decide (a < b)))) := rfl
theorem fGtI (a b : Int) : fGt (.int a) (.int b) = some (.val (.bool (decide (a > b)))) := rfl
def roomLike (n : Nat) (d : Dt) : Prop := d = .none ∨ doorLike n d
theorem house_room (cs : List Int) (m t : Int) (h r : Nat) (s : Int) (b0 b1 : Bool) (k : Int) (fs ws : List Dt) (x7 x8 x9 x10 : Option Tv) (hc : cs.length ≤ 63) (hh : h ≤ 900) (hf : fs.length ≤ 1000) :
    ∃ cs' m' t' f, cs'.length ≤ 63 ∧ roomLike h f ∧ b_law_house_1 (houE (.pot cs m t) h r s b0 b1 k fs ws x7 x8 x9 x10) = .nx (houE (.pot cs' m' t') h r s b0 b1 k (fs ++ [f]) ws x7 x8 x9 x10) := by
  obtain ⟨a, cs1, m1, t1, g1, g2, g3, g4⟩ := of_ok cs m t 6 hc (by omega)
  by_cases z : a < k
  · obtain ⟨d, cs2, m2, t2, g5, g6, g7⟩ := door_ok cs1 m1 t1 h b0 g2 hh
    refine ⟨cs2, m2, t2, d, g6, .inr g7, ?_⟩
    unfold b_law_house_1
    apply y_end
    · repeat' (first | (with_reducible assumption) | (with_reducible exact x_dat) | (with_reducible exact x_nil) | (with_reducible exact y_skip) | (with_reducible exact x_retB) | (with_reducible refine x_val ?_; rfl) | (with_reducible refine x_own ?_; rfl) | (with_reducible refine x_io ?_; rfl) | (with_reducible apply x_cons) | (with_reducible apply z_T) | (with_reducible apply z_F) | (with_reducible apply y_seq) | (with_reducible apply y_set) | (with_reducible apply y_expr) | (with_reducible apply y_ret) | (with_reducible apply y_if) | (with_reducible apply x_if) | (with_reducible apply x_and) | (with_reducible apply x_or) | (with_reducible apply x_not) | (with_reducible apply x_test) | (with_reducible apply x_op2) | (with_reducible apply x_op1) | (with_reducible apply x_callB) | (with_reducible apply x_tup) | (with_reducible apply x_lst) | (with_reducible apply x_met) | (with_reducible apply x_call) | (with_reducible apply y_par2) | (with_reducible apply y_par3) | (with_reducible apply y_unp) | (with_reducible apply y_for) | (with_reducible apply x_rng1) | (with_reducible apply x_rng2) | (with_reducible apply x_seq) | (with_reducible apply x_enum) | (with_reducible apply x_still) | (with_reducible apply x_rgL1) | (with_reducible exact g1) | (with_reducible exact decide_eq_true z) | (with_reducible exact g5) | (with_reducible exact decide_eq_true (by omega)) | (with_reducible exact decide_eq_false (by omega)) | (with_reducible exact f_append (by omega)) | (with_reducible exact small_le (by omega)) | (with_reducible exact f_rng1 (big_of (by omega) (by omega))) | (exact ⟨.inl rfl, rfl⟩) | (exact (rfl : (_ : Bool) = true)) | (exact (rfl : (_ : Bool) = false)) | (rfl))
    · rfl
  · refine ⟨cs1, m1, t1, .none, g2, .inl rfl, ?_⟩
    unfold b_law_house_1
    apply y_end
    · repeat' (first | (with_reducible assumption) | (with_reducible exact x_dat) | (with_reducible exact x_nil) | (with_reducible exact y_skip) | (with_reducible exact x_retB) | (with_reducible refine x_val ?_; rfl) | (with_reducible refine x_own ?_; rfl) | (with_reducible refine x_io ?_; rfl) | (with_reducible apply x_cons) | (with_reducible apply z_T) | (with_reducible apply z_F) | (with_reducible apply y_seq) | (with_reducible apply y_set) | (with_reducible apply y_expr) | (with_reducible apply y_ret) | (with_reducible apply y_if) | (with_reducible apply x_if) | (with_reducible apply x_and) | (with_reducible apply x_or) | (with_reducible apply x_not) | (with_reducible apply x_test) | (with_reducible apply x_op2) | (with_reducible apply x_op1) | (with_reducible apply x_callB) | (with_reducible apply x_tup) | (with_reducible apply x_lst) | (with_reducible apply x_met) | (with_reducible apply x_call) | (with_reducible apply y_par2) | (with_reducible apply y_par3) | (with_reducible apply y_unp) | (with_reducible apply y_for) | (with_reducible apply x_rng1) | (with_reducible apply x_rng2) | (with_reducible apply x_seq) | (with_reducible apply x_enum) | (with_reducible apply x_still) | (with_reducible apply x_rgL1) | (with_reducible exact g1) | (with_reducible exact decide_eq_false z) | (with_reducible exact decide_eq_true (by omega)) | (with_reducible exact decide_eq_false (by omega)) | (with_reducible exact f_append (by omega)) | (with_reducible exact small_le (by omega)) | (with_reducible exact f_rng1 (big_of (by omega) (by omega))) | (exact ⟨.inl rfl, rfl⟩) | (exact (rfl : (_ : Bool) = true)) | (exact (rfl : (_ : Bool) = false)) | (rfl))
    · rfl
theorem house_some (cs : List Int) (m t : Int) (h r : Nat) (s : Int) (b0 b1 : Bool) (k : Int) (fs ws : List Dt) (x7 x8 x9 x10 : Option Tv) (hc : cs.length ≤ 63) (hr : r ≤ 900) (h7 : x7 = none ∨ ∃ d, x7 = some (.val d)) :
    ∃ cs' m' t' acc, cs'.length ≤ 63 ∧ (∀ d ∈ acc, d ∈ rgs 0 r) ∧ acc.length ≤ r ∧ l_law_house_2 (houE (.pot cs m t) h r s b0 b1 k fs ws x7 x8 x9 x10) = .ok (.tmp (.own (.lst acc))) (houE (.pot cs' m' t') h r s b0 b1 k fs ws x7 x8 x9 x10) := by
  obtain ⟨acc, e', h1, cs', m', t', y7, rfl, h2, h3, h4⟩ := itL_eq (g := gN 7) (t := mTest (mOp2 fGt (mCall f_law_of (some 0) true (mCons (mVar 0) (mCons (mDat (.int 3)) (M.ret [])))) (mDat (.int 0)))) (m := mVar 7) (vs := [7]) (all := rgs 0 r)
    (fun i acc e => ∃ cs m t y7, e = houE (.pot cs m t) h r s b0 b1 k fs ws y7 x8 x9 x10 ∧ cs.length ≤ 63 ∧ (∀ d ∈ acc, d ∈ rgs 0 r) ∧ acc.length ≤ i)
    (rgs 0 r) [] (houE (.pot cs m t) h r s b0 b1 k fs ws x7 x8 x9 x10) 0 ⟨cs, m, t, x7, rfl, hc, (fun d h => nomatch h), Nat.le_refl _⟩ (by
      rintro i d acc e hi ⟨cs, m, t, y7, rfl, h1, h2, h3⟩
      rw [Nat.zero_add] at h3 ⊢
      have hm : d ∈ rgs 0 r := List.mem_of_getElem? hi
      have hlt : i < (rgs 0 r).length := (List.getElem?_eq_some_iff.mp hi).1
      rw [rgs_len] at hlt
      obtain ⟨a, cs1, m1, t1, g1, g2, g3, g4⟩ := of_ok cs m t 3 h1 (by omega)
      have g5 := fGtI a 0
      by_cases z : a > 0
      · rw [decide_eq_true z] at g5
        refine ⟨houE (.pot cs m t) h r s b0 b1 k fs ws (some (.val d)) x8 x9 x10, rfl, .inr ⟨houE (.pot cs1 m1 t1) h r s b0 b1 k fs ws (some (.val d)) x8 x9 x10, .tmp (.val d), houE (.pot cs1 m1 t1) h r s b0 b1 k fs ws (some (.val d)) x8 x9 x10, d, houE (.pot cs1 m1 t1) h r s b0 b1 k fs ws (some (.val d)) x8 x9 x10, ?_, x_val rfl, rfl, by omega, cs1, m1, t1, _, rfl, g2, ?_, by rw [List.length_append, List.length_singleton]; omega⟩⟩
        · repeat' (first | (with_reducible assumption) | (with_reducible exact x_dat) | (with_reducible exact x_nil) | (with_reducible exact y_skip) | (with_reducible exact x_retB) | (with_reducible refine x_val ?_; rfl) | (with_reducible refine x_own ?_; rfl) | (with_reducible refine x_io ?_; rfl) | (with_reducible apply x_cons) | (with_reducible apply z_T) | (with_reducible apply z_F) | (with_reducible apply y_seq) | (with_reducible apply y_set) | (with_reducible apply y_expr) | (with_reducible apply y_ret) | (with_reducible apply y_if) | (with_reducible apply x_if) | (with_reducible apply x_and) | (with_reducible apply x_or) | (with_reducible apply x_not) | (with_reducible apply x_test) | (with_reducible apply x_op2) | (with_reducible apply x_op1) | (with_reducible apply x_callB) | (with_reducible apply x_tup) | (with_reducible apply x_lst) | (with_reducible apply x_met) | (with_reducible apply x_call) | (with_reducible apply y_par2) | (with_reducible apply y_par3) | (with_reducible apply y_unp) | (with_reducible apply y_for) | (with_reducible apply x_rng1) | (with_reducible apply x_rng2) | (with_reducible apply x_seq) | (with_reducible apply x_enum) | (with_reducible apply x_still) | (with_reducible apply x_rgL1) | (with_reducible exact g1) | (with_reducible exact g5) | (with_reducible exact decide_eq_true (by omega)) | (with_reducible exact decide_eq_false (by omega)) | (with_reducible exact f_append (by omega)) | (with_reducible exact small_le (by omega)) | (with_reducible exact f_rng1 (big_of (by omega) (by omega))) | (exact ⟨.inl rfl, rfl⟩) | (exact (rfl : (_ : Bool) = true)) | (exact (rfl : (_ : Bool) = false)) | (rfl))
        · intro x hx
          rcases List.mem_append.mp hx with q | q
          · exact h2 x q
          · rw [List.mem_singleton.mp q]; exact hm
      · rw [decide_eq_false z] at g5
        refine ⟨houE (.pot cs m t) h r s b0 b1 k fs ws (some (.val d)) x8 x9 x10, rfl, .inl ⟨houE (.pot cs1 m1 t1) h r s b0 b1 k fs ws (some (.val d)) x8 x9 x10, ?_, cs1, m1, t1, _, rfl, g2, h2, by omega⟩⟩
        · repeat' (first | (with_reducible assumption) | (with_reducible exact x_dat) | (with_reducible exact x_nil) | (with_reducible exact y_skip) | (with_reducible exact x_retB) | (with_reducible refine x_val ?_; rfl) | (with_reducible refine x_own ?_; rfl) | (with_reducible refine x_io ?_; rfl) | (with_reducible apply x_cons) | (with_reducible apply z_T) | (with_reducible apply z_F) | (with_reducible apply y_seq) | (with_reducible apply y_set) | (with_reducible apply y_expr) | (with_reducible apply y_ret) | (with_reducible apply y_if) | (with_reducible apply x_if) | (with_reducible apply x_and) | (with_reducible apply x_or) | (with_reducible apply x_not) | (with_reducible apply x_test) | (with_reducible apply x_op2) | (with_reducible apply x_op1) | (with_reducible apply x_callB) | (with_reducible apply x_tup) | (with_reducible apply x_lst) | (with_reducible apply x_met) | (with_reducible apply x_call) | (with_reducible apply y_par2) | (with_reducible apply y_par3) | (with_reducible apply y_unp) | (with_reducible apply y_for) | (with_reducible apply x_rng1) | (with_reducible apply x_rng2) | (with_reducible apply x_seq) | (with_reducible apply x_enum) | (with_reducible apply x_still) | (with_reducible apply x_rgL1) | (with_reducible exact g1) | (with_reducible exact g5) | (with_reducible exact decide_eq_true (by omega)) | (with_reducible exact decide_eq_false (by omega)) | (with_reducible exact f_append (by omega)) | (with_reducible exact small_le (by omega)) | (with_reducible exact f_rng1 (big_of (by omega) (by omega))) | (exact ⟨.inl rfl, rfl⟩) | (exact (rfl : (_ : Bool) = true)) | (exact (rfl : (_ : Bool) = false)) | (rfl)))
  rw [Nat.zero_add, rgs_len] at h4
  refine ⟨cs', m', t', acc, h2, h3, h4, ?_⟩
  have hpl : ([7].all fun v => VL.plain (houE (.pot cs m t) h r s b0 b1 k fs ws x7 x8 x9 x10) v) = true := by
    rcases h7 with rfl | ⟨d, rfl⟩ <;> rfl
  exact x_lc (mi := still (iRng1 (mCons (mVar 2) (M.ret [])))) (ds := rgs 0 r) (e1 := houE (.pot cs m t) h r s b0 b1 k fs ws x7 x8 x9 x10) (x_still (x_rng1 (x_cons (x_val rfl) x_nil) rfl (f_rngN (by omega)))) hpl h1
def wayLike (r n : Nat) (d : Dt) : Prop := ∃ ts, d = .tuple ts ∧ (∀ x ∈ ts, stepLike (rgs 0 r) x) ∧ ts.length ≤ n
theorem stepLike.mono {ds es : List Dt} {x : Dt} (h : stepLike ds x) (hs : ∀ d ∈ ds, d ∈ es) : stepLike es x := by
  obtain ⟨r, h1, h2⟩ := h
  exact ⟨r, hs r h1, h2⟩
theorem rgs_in {r : Nat} {a : Int} (h0 : 0 ≤ a) (h1 : a < r) : PyData.int a ∈ rgs 0 r := by
  obtain ⟨i, rfl⟩ := Int.eq_ofNat_of_zero_le h0
  have : (rgs 0 r)[i]? = some (.int (i : Int)) := by
    have hl : i < (rgs 0 r).length := by rw [rgs_len]; omega
    obtain ⟨d, hd⟩ : ∃ d, (rgs 0 r)[i]? = some d := ⟨_, List.getElem?_eq_getElem hl⟩
    rw [hd, (rgs_at hd).1]
  exact List.mem_of_getElem? this
theorem house_hand (cs : List Int) (m t : Int) (h r : Nat) (s q : Int) (b0 b1 : Bool) (k : Int) (fs ws : List Dt) (x7 x8 x9 x10 : Option Tv) (hc : cs.length ≤ 63) (h0 : 0 < r) (hr : r ≤ 900) (hw : ws.length ≤ 1000) (hq : fDiv (.int s) (.int 2) = some (.val (.int q))) (hq0 : 0 ≤ q ∧ q ≤ 100) (h7 : x7 = none ∨ ∃ d, x7 = some (.val d)) :
    ∃ cs' m' t' w x9' x10', cs'.length ≤ 63 ∧ wayLike r (2 * q.toNat + 3) w ∧ b_law_house_3 (houE (.pot cs m t) h r s b0 b1 k fs ws x7 x8 x9 x10) = .nx (houE (.pot cs' m' t') h r s b0 b1 k fs (ws ++ [w]) x7 x8 x9' x10') := by
  obtain ⟨a, cs1, m1, t1, g1, g2, g3, g4⟩ := of_ok cs m t q hc (by omega)
  obtain ⟨n, hn⟩ := Int.eq_ofNat_of_zero_le g3
  have e1 : fMul (.int 2) (.int a) = some (.val (.int (2 * a))) := rfl
  have e2 : fAdd (.int 2) (.int (2 * a)) = some (.val (.int ((2 + 2 * n : Nat) : Int))) := by
    rw [hn]
    show some (Tv.val (.int (2 + 2 * (n : Int)))) = _
    rw [show (2 : Int) + 2 * (n : Int) = ((2 + 2 * n : Nat) : Int) by omega]
  obtain ⟨cs2, m2, t2, acc, g5, g6, g7, g8⟩ := house_some cs1 m1 t1 h r s b0 b1 k fs ws x7 x8 (some (.val (.int ((2 + 2 * n : Nat) : Int)))) x10 g2 hr h7
  have fa : ∀ d ∈ acc, intLike d = true := fun d hd => rgs_int (g6 d hd)
  have e3 := neNil acc (shaped_flat acc fun d hd => flat_int (fa d hd))
  by_cases z : acc = []
  · subst z
    obtain ⟨c, cs3, m3, t3, g9, k1, k2, k3⟩ := of_ok cs2 m2 t2 r g5 (by omega)
    have hcr : c < r := by omega
    obtain ⟨ts, cs4, m4, t4, k4, k5, k6, k7⟩ := way_ok cs3 m3 t3 [.int c] (2 + 2 * n) b1 k1 (List.cons_ne_nil _ _) (fun d hd => by rw [List.mem_singleton.mp hd]; rfl) (by simp) (by omega)
    refine ⟨cs4, m4, t4, .tuple ts, some (.val (.int ((2 + 2 * n : Nat) : Int))), some (.own (.lst [])), k5, ⟨ts, rfl, fun x hx => (k6 x hx).mono fun d hd => ?_, by omega⟩, ?_⟩
    · rw [List.mem_singleton.mp hd]; exact rgs_in k2 hcr
    · unfold b_law_house_3
      refine y_seq (e1 := houE (.pot cs1 m1 t1) h r s b0 b1 k fs ws x7 x8 (some (.val (.int ((2 + 2 * n : Nat) : Int)))) x10) ?_ (y_seq (e1 := houE (.pot cs2 m2 t2) h r s b0 b1 k fs ws x7 x8 (some (.val (.int ((2 + 2 * n : Nat) : Int)))) (some (.own (.lst [])))) (y_set g8 rfl) ?_)
      · apply y_end
        · repeat' (first | (with_reducible assumption) | (with_reducible exact x_dat) | (with_reducible exact x_nil) | (with_reducible exact y_skip) | (with_reducible exact x_retB) | (with_reducible refine x_val ?_; rfl) | (with_reducible refine x_own ?_; rfl) | (with_reducible refine x_io ?_; rfl) | (with_reducible apply x_cons) | (with_reducible apply z_T) | (with_reducible apply z_F) | (with_reducible apply y_seq) | (with_reducible apply y_set) | (with_reducible apply y_expr) | (with_reducible apply y_ret) | (with_reducible apply y_if) | (with_reducible apply x_if) | (with_reducible apply x_and) | (with_reducible apply x_or) | (with_reducible apply x_not) | (with_reducible apply x_test) | (with_reducible apply x_op2) | (with_reducible apply x_op1) | (with_reducible apply x_callB) | (with_reducible apply x_tup) | (with_reducible apply x_lst) | (with_reducible apply x_met) | (with_reducible apply x_call) | (with_reducible apply y_par2) | (with_reducible apply y_par3) | (with_reducible apply y_unp) | (with_reducible apply y_for) | (with_reducible apply x_rng1) | (with_reducible apply x_rng2) | (with_reducible apply x_seq) | (with_reducible apply x_enum) | (with_reducible apply x_still) | (with_reducible apply x_rgL1) | (with_reducible exact hq) | (with_reducible exact g1) | (with_reducible exact e1) | (with_reducible exact e2) | (with_reducible exact decide_eq_true (by omega)) | (with_reducible exact decide_eq_false (by omega)) | (with_reducible exact f_append (by omega)) | (with_reducible exact small_le (by omega)) | (with_reducible exact f_rng1 (big_of (by omega) (by omega))) | (exact ⟨.inl rfl, rfl⟩) | (exact (rfl : (_ : Bool) = true)) | (exact (rfl : (_ : Bool) = false)) | (rfl))
        · rfl
      · apply y_end
        · repeat' (first | (with_reducible assumption) | (with_reducible exact x_dat) | (with_reducible exact x_nil) | (with_reducible exact y_skip) | (with_reducible exact x_retB) | (with_reducible refine x_val ?_; rfl) | (with_reducible refine x_own ?_; rfl) | (with_reducible refine x_io ?_; rfl) | (with_reducible apply x_cons) | (with_reducible apply z_T) | (with_reducible apply z_F) | (with_reducible apply y_seq) | (with_reducible apply y_set) | (with_reducible apply y_expr) | (with_reducible apply y_ret) | (with_reducible apply y_if) | (with_reducible apply x_if) | (with_reducible apply x_and) | (with_reducible apply x_or) | (with_reducible apply x_not) | (with_reducible apply x_test) | (with_reducible apply x_op2) | (with_reducible apply x_op1) | (with_reducible apply x_callB) | (with_reducible apply x_tup) | (with_reducible apply x_lst) | (with_reducible apply x_met) | (with_reducible apply x_call) | (with_reducible apply y_par2) | (with_reducible apply y_par3) | (with_reducible apply y_unp) | (with_reducible apply y_for) | (with_reducible apply x_rng1) | (with_reducible apply x_rng2) | (with_reducible apply x_seq) | (with_reducible apply x_enum) | (with_reducible apply x_still) | (with_reducible apply x_rgL1) | (with_reducible exact e3) | (with_reducible exact g9) | (with_reducible exact k4) | (with_reducible exact decide_eq_true (by omega)) | (with_reducible exact decide_eq_false (by omega)) | (with_reducible exact f_append (by omega)) | (with_reducible exact small_le (by omega)) | (with_reducible exact f_rng1 (big_of (by omega) (by omega))) | (exact ⟨.inl rfl, rfl⟩) | (exact (rfl : (_ : Bool) = true)) | (exact (rfl : (_ : Bool) = false)) | (rfl))
        · rfl
  · have z2 : acc.isEmpty = false := by simpa using z
    rw [z2] at e3
    obtain ⟨ts, cs4, m4, t4, k4, k5, k6, k7⟩ := way_ok cs2 m2 t2 acc (2 + 2 * n) b1 g5 z fa (by omega) (by omega)
    refine ⟨cs4, m4, t4, .tuple ts, some (.val (.int ((2 + 2 * n : Nat) : Int))), some (.val (.list acc)), k5, ⟨ts, rfl, fun x hx => (k6 x hx).mono g6, by omega⟩, ?_⟩
    unfold b_law_house_3
    refine y_seq (e1 := houE (.pot cs1 m1 t1) h r s b0 b1 k fs ws x7 x8 (some (.val (.int ((2 + 2 * n : Nat) : Int)))) x10) ?_ (y_seq (e1 := houE (.pot cs2 m2 t2) h r s b0 b1 k fs ws x7 x8 (some (.val (.int ((2 + 2 * n : Nat) : Int)))) (some (.own (.lst acc)))) (y_set g8 rfl) ?_)
    · apply y_end
      · repeat' (first | (with_reducible assumption) | (with_reducible exact x_dat) | (with_reducible exact x_nil) | (with_reducible exact y_skip) | (with_reducible exact x_retB) | (with_reducible refine x_val ?_; rfl) | (with_reducible refine x_own ?_; rfl) | (with_reducible refine x_io ?_; rfl) | (with_reducible apply x_cons) | (with_reducible apply z_T) | (with_reducible apply z_F) | (with_reducible apply y_seq) | (with_reducible apply y_set) | (with_reducible apply y_expr) | (with_reducible apply y_ret) | (with_reducible apply y_if) | (with_reducible apply x_if) | (with_reducible apply x_and) | (with_reducible apply x_or) | (with_reducible apply x_not) | (with_reducible apply x_test) | (with_reducible apply x_op2) | (with_reducible apply x_op1) | (with_reducible apply x_callB) | (with_reducible apply x_tup) | (with_reducible apply x_lst) | (with_reducible apply x_met) | (with_reducible apply x_call) | (with_reducible apply y_par2) | (with_reducible apply y_par3) | (with_reducible apply y_unp) | (with_reducible apply y_for) | (with_reducible apply x_rng1) | (with_reducible apply x_rng2) | (with_reducible apply x_seq) | (with_reducible apply x_enum) | (with_reducible apply x_still) | (with_reducible apply x_rgL1) | (with_reducible exact hq) | (with_reducible exact g1) | (with_reducible exact e1) | (with_reducible exact e2) | (with_reducible exact decide_eq_true (by omega)) | (with_reducible exact decide_eq_false (by omega)) | (with_reducible exact f_append (by omega)) | (with_reducible exact small_le (by omega)) | (with_reducible exact f_rng1 (big_of (by omega) (by omega))) | (exact ⟨.inl rfl, rfl⟩) | (exact (rfl : (_ : Bool) = true)) | (exact (rfl : (_ : Bool) = false)) | (rfl))
      · rfl
    · apply y_end
      · repeat' (first | (with_reducible assumption) | (with_reducible exact x_dat) | (with_reducible exact x_nil) | (with_reducible exact y_skip) | (with_reducible exact x_retB) | (with_reducible refine x_val ?_; rfl) | (with_reducible refine x_own ?_; rfl) | (with_reducible refine x_io ?_; rfl) | (with_reducible apply x_cons) | (with_reducible apply z_T) | (with_reducible apply z_F) | (with_reducible apply y_seq) | (with_reducible apply y_set) | (with_reducible apply y_expr) | (with_reducible apply y_ret) | (with_reducible apply y_if) | (with_reducible apply x_if) | (with_reducible apply x_and) | (with_reducible apply x_or) | (with_reducible apply x_not) | (with_reducible apply x_test) | (with_reducible apply x_op2) | (with_reducible apply x_op1) | (with_reducible apply x_callB) | (with_reducible apply x_tup) | (with_reducible apply x_lst) | (with_reducible apply x_met) | (with_reducible apply x_call) | (with_reducible apply y_par2) | (with_reducible apply y_par3) | (with_reducible apply y_unp) | (with_reducible apply y_for) | (with_reducible apply x_rng1) | (with_reducible apply x_rng2) | (with_reducible apply x_seq) | (with_reducible apply x_enum) | (with_reducible apply x_still) | (with_reducible apply x_rgL1) | (with_reducible exact e3) | (with_reducible exact k4) | (with_reducible exact decide_eq_true (by omega)) | (with_reducible exact decide_eq_false (by omega)) | (with_reducible exact f_append (by omega)) | (with_reducible exact small_le (by omega)) | (with_reducible exact f_rng1 (big_of (by omega) (by omega))) | (exact ⟨.inl rfl, rfl⟩) | (exact (rfl : (_ : Bool) = true)) | (exact (rfl : (_ : Bool) = false)) | (rfl))
      · rfl
theorem house_ok (cs : List Int) (m t : Int) (h r : Nat) (s q : Int) (b0 b1 : Bool) (k : Int) (hc : cs.length ≤ 63) (hh : h ≤ 900) (h0 : 0 < r) (hr : r ≤ 900) (hq : fDiv (.int s) (.int 2) = some (.val (.int q))) (hq0 : 0 ≤ q ∧ q ≤ 100) :
    ∃ fs ws cs' m' t', f_law_house [.io (.pot cs m t), .val (.int h), .val (.int r), .val (.int s), .val (.tuple [.bool b0, .bool b1, .int k])] = .ok (.val (.tuple [.tuple fs, .tuple ws])) (some (.pot cs' m' t')) ∧
      cs'.length ≤ 63 ∧ (fs.length = r ∧ ∀ f ∈ fs, roomLike h f) ∧ ws.length = h ∧ ∀ w ∈ ws, wayLike r (2 * q.toNat + 3) w := by
  obtain ⟨_, g1, cs1, m1, t1, fs, x7, rfl, g2, g3, g4, g5⟩ := for_eq (g := gN 7) (b := b_law_house_1)
    (fun i e => ∃ cs m t fs x7, e = houE (.pot cs m t) h r s b0 b1 k fs [] x7 none none none ∧ cs.length ≤ 63 ∧ fs.length = i ∧ (∀ f ∈ fs, roomLike h f) ∧ (x7 = none ∨ ∃ d, x7 = some (.val d)))
    (rgs 0 r) (houE (.pot cs m t) h r s b0 b1 k [] [] none none none none) 0 ⟨cs, m, t, [], none, rfl, hc, rfl, (fun d h => nomatch h), .inl rfl⟩ (by
      rintro i d e hi ⟨cs, m, t, fs, x7, rfl, q1, q2, q3, q4⟩
      obtain ⟨rfl, hlt⟩ := rgs_at hi
      obtain ⟨cs', m', t', f, p1, p2, p3⟩ := house_room cs m t h r s b0 b1 k fs [] (some (.val (.int i))) none none none q1 hh (by omega)
      refine ⟨_, _, rfl, p3, _, _, _, _, _, rfl, p1, by rw [List.length_append, List.length_singleton]; omega, fun x hx => ?_, .inr ⟨_, rfl⟩⟩
      rcases List.mem_append.mp hx with q | q
      · exact q3 x q
      · rw [List.mem_singleton.mp q]; exact p2)
  rw [Nat.zero_add, rgs_len] at g3
  obtain ⟨_, k1, cs2, m2, t2, ws, x8, x9, x10, rfl, k2, k3, k4⟩ := for_eq (g := gN 8) (b := b_law_house_3)
    (fun i e => ∃ cs m t ws x8 x9 x10, e = houE (.pot cs m t) h r s b0 b1 k fs ws x7 x8 x9 x10 ∧ cs.length ≤ 63 ∧ ws.length = i ∧ (∀ w ∈ ws, wayLike r (2 * q.toNat + 3) w))
    (rgs 0 h) (houE (.pot cs1 m1 t1) h r s b0 b1 k fs [] x7 none none none) 0 ⟨cs1, m1, t1, [], none, none, none, rfl, g2, rfl, (fun d h => nomatch h)⟩ (by
      rintro i d e hi ⟨cs, m, t, ws, x8, x9, x10, rfl, q1, q2, q3⟩
      obtain ⟨rfl, hlt⟩ := rgs_at hi
      obtain ⟨cs', m', t', w, x9', x10', p1, p2, p3⟩ := house_hand cs m t h r s q b0 b1 k fs ws x7 (some (.val (.int i))) x9 x10 q1 h0 hr (by omega) hq hq0 g5
      refine ⟨_, _, rfl, p3, _, _, _, _, _, _, _, rfl, p1, by rw [List.length_append, List.length_singleton]; omega, fun x hx => ?_⟩
      rcases List.mem_append.mp hx with q | q
      · exact q3 x q
      · rw [List.mem_singleton.mp q]; exact p2)
  rw [Nat.zero_add, rgs_len] at k3
  refine ⟨fs, ws, cs2, m2, t2, ?_, k2, ⟨g3, g4⟩, k3, k4⟩
  unfold f_law_house
  refine fn_rt (m := m_law_house) (n := 11) (np := 5) (r := .tmp (.val (.tuple [.tuple fs, .tuple ws]))) (e := houE (.pot cs2 m2 t2) h r s b0 b1 k fs ws x7 x8 x9 x10) rfl ?_ rfl rfl
  unfold m_law_house
  refine y_seq (e1 := houE (.pot cs m t) h r s b0 b1 k [] [] none none none none) ?_ (y_seq (y_for (x_rng1 (x_cons (x_val rfl) x_nil) rfl (f_rngN (by omega))) g1) (y_seq (y_for (x_rng1 (x_cons (x_val rfl) x_nil) rfl (f_rngN (by omega))) k1) ?_))
  · apply y_end
    · repeat' (first | (with_reducible assumption) | (with_reducible exact x_dat) | (with_reducible exact x_nil) | (with_reducible exact y_skip) | (with_reducible exact x_retB) | (with_reducible refine x_val ?_; rfl) | (with_reducible refine x_own ?_; rfl) | (with_reducible refine x_io ?_; rfl) | (with_reducible apply x_cons) | (with_reducible apply z_T) | (with_reducible apply z_F) | (with_reducible apply y_seq) | (with_reducible apply y_set) | (with_reducible apply y_expr) | (with_reducible apply y_ret) | (with_reducible apply y_if) | (with_reducible apply x_if) | (with_reducible apply x_and) | (with_reducible apply x_or) | (with_reducible apply x_not) | (with_reducible apply x_test) | (with_reducible apply x_op2) | (with_reducible apply x_op1) | (with_reducible apply x_callB) | (with_reducible apply x_tup) | (with_reducible apply x_lst) | (with_reducible apply x_met) | (with_reducible apply x_call) | (with_reducible apply y_par2) | (with_reducible apply y_par3) | (with_reducible apply y_unp) | (with_reducible apply y_for) | (with_reducible apply x_rng1) | (with_reducible apply x_rng2) | (with_reducible apply x_seq) | (with_reducible apply x_enum) | (with_reducible apply x_still) | (with_reducible apply x_rgL1) | (with_reducible exact decide_eq_true (by omega)) | (with_reducible exact decide_eq_false (by omega)) | (with_reducible exact f_append (by omega)) | (with_reducible exact small_le (by omega)) | (with_reducible exact f_rng1 (big_of (by omega) (by omega))) | (exact ⟨.inl rfl, rfl⟩) | (exact (rfl : (_ : Bool) = true)) | (exact (rfl : (_ : Bool) = false)) | (rfl))
    · rfl
  · repeat' (first | (with_reducible assumption) | (with_reducible exact x_dat) | (with_reducible exact x_nil) | (with_reducible exact y_skip) | (with_reducible exact x_retB) | (with_reducible refine x_val ?_; rfl) | (with_reducible refine x_own ?_; rfl) | (with_reducible refine x_io ?_; rfl) | (with_reducible apply x_cons) | (with_reducible apply z_T) | (with_reducible apply z_F) | (with_reducible apply y_seq) | (with_reducible apply y_set) | (with_reducible apply y_expr) | (with_reducible apply y_ret) | (with_reducible apply y_if) | (with_reducible apply x_if) | (with_reducible apply x_and) | (with_reducible apply x_or) | (with_reducible apply x_not) | (with_reducible apply x_test) | (with_reducible apply x_op2) | (with_reducible apply x_op1) | (with_reducible apply x_callB) | (with_reducible apply x_tup) | (with_reducible apply x_lst) | (with_reducible apply x_met) | (with_reducible apply x_call) | (with_reducible apply y_par2) | (with_reducible apply y_par3) | (with_reducible apply y_unp) | (with_reducible apply y_for) | (with_reducible apply x_rng1) | (with_reducible apply x_rng2) | (with_reducible apply x_seq) | (with_reducible apply x_enum) | (with_reducible apply x_still) | (with_reducible apply x_rgL1) | (with_reducible exact decide_eq_true (by omega)) | (with_reducible exact decide_eq_false (by omega)) | (with_reducible exact f_append (by omega)) | (with_reducible exact small_le (by omega)) | (with_reducible exact f_rng1 (big_of (by omega) (by omega))) | (exact ⟨.inl rfl, rfl⟩) | (exact (rfl : (_ : Bool) = true)) | (exact (rfl : (_ : Bool) = false)) | (rfl))
end KD


namespace KD
open PySem PySem.Spec L2 VL
open PyProof.Rows hiding St
def longW (ws : List Dt) (d : Dt) : Bool := match d with
  | .int i => match ws[i.toNat]? with
    | some (.tuple ts) => decide (22 < ts.length)
    | _ => false
  | _ => false
def gOne (n : Nat) (hs : List Dt) (i : Nat) (w : Dt) : Dt := if isIn (.int (i : Int)) hs = true then (match w with
  | .tuple ts => .tuple ([.tuple [.str ("in" : Str), .int (n : Int)]] ++ ts ++ [.tuple [.str ("out" : Str), .int (n : Int)]])
  | w => w) else w
def gAll (n : Nat) (hs ws : List Dt) : List Dt := (List.range ws.length).map fun i => gOne n hs i (ws.getD i .none)
def Hands (h : Nat) (hs : List Dt) : Prop := (∀ d ∈ hs, ∃ i : Nat, d = .int (i : Int) ∧ i < h) ∧ hs.length ≤ 900
def Ways (ws : List Dt) : Prop := (∀ w ∈ ws, ∃ ts, w = .tuple ts ∧ ts.length ≤ 1000) ∧ ws.length ≤ 900
theorem Hands.int {h : Nat} {hs : List Dt} (H : Hands h hs) : ∀ d ∈ hs, intLike d = true := fun d hd => by
  obtain ⟨i, rfl, _⟩ := H.1 d hd
  rfl
theorem enum_get : ∀ (ds : List Dt) (k i : Nat) (x : Dt), (enumD k ds)[i]? = some x → ∃ d, ds[i]? = some d ∧ x = .tuple [.int ((k + i : Nat) : Int), d]
  | [], k, i, x, h => by simp [enumD] at h
  | d :: ds, k, 0, x, h => ⟨d, rfl, by simpa [enumD] using h.symm⟩
  | d :: ds, k, i + 1, x, h => by
    obtain ⟨y, h1, h2⟩ := enum_get ds (k + 1) i x (by simpa [enumD] using h)
    exact ⟨y, by simpa using h1, by rw [h2, show k + 1 + i = k + (i + 1) by omega]⟩
theorem shapedT_flat (ds : List Dt) (h : ∀ d ∈ ds, flatD d = true) : SeqAt.shaped (.tuple ds) = true := by
  have h1 := shaped_flat ds h
  unfold SeqAt.shaped at h1 ⊢
  simpa [PyData.canLay0, PyData.depth] using h1
theorem inT_ok {i : Int} {hs : List Dt} (h : ∀ d ∈ hs, intLike d = true) : fIn (.int i) (.tuple hs) = some (.val (.bool (isIn (.int i) hs))) := by
  show (if _ then _ else _) = _
  rw [shapedT_flat hs fun d hd => flat_int (h d hd), shapedI]
  rfl
theorem addT {xs ys : List Dt} (h : xs.length + ys.length ≤ 1000000) : fAdd (.tuple xs) (.tuple ys) = some (.val (.tuple (xs ++ ys))) := if_pos (small_le h)
theorem len_T (ts : List Dt) : fLen [.tuple ts] = some (.val (.int (ts.length : Int))) := rfl
abbrev gatE (hd : Dt) (hs fs ws : List Dt) (x4 x5 x6 x7 : Option Tv) : En := [some (.val hd), some (.val (.tuple hs)), some (.val (.tuple fs)), some (.val (.tuple ws)), x4, x5, x6, x7]
theorem long_at {ws : List Dt} {i : Nat} {ts : List Dt} (h : ws[i]? = some (.tuple ts)) : longW ws (.int (i : Int)) = decide (22 < ts.length) := by
  unfold longW
  simp only
  rw [show (i : Int).toNat = i from rfl, h]
theorem gt22 (n : Nat) : fGt (.int (n : Int)) (.int 22) = some (.val (.bool (decide (22 < n)))) := by
  rw [fGtI]
  have : decide ((n : Int) > 22) = decide (22 < n) := decide_eq_decide.mpr (by omega)
  rw [this]
theorem gated_long (hd : Dt) (hs fs ws : List Dt) (n : Int) (x6 x7 : Option Tv) (H : Hands ws.length hs) (W : Ways ws) :
    lgated_1 (gatE hd hs fs ws (some (.val (.int n))) none x6 x7) = .ok (.tmp (.own (.lst (hs.filter (longW ws))))) (gatE hd hs fs ws (some (.val (.int n))) none x6 x7) := by
  obtain ⟨acc, e', h1, x5, rfl, h2⟩ := itL_eq (g := gN 5) (t := mTest (mOp2 fGt (mCallB fLen (mCons (mOp2 fIx (mVar 3) (mVar 5)) (M.ret []))) (mOp2 fSub (mDat (.int 24)) (mDat (.int 2))))) (m := mVar 5) (vs := [5]) (all := hs)
    (fun i acc e => ∃ x5, e = gatE hd hs fs ws (some (.val (.int n))) x5 x6 x7 ∧ acc = (hs.take i).filter (longW ws))
    hs [] (gatE hd hs fs ws (some (.val (.int n))) none x6 x7) 0 ⟨none, rfl, rfl⟩ (by
      rintro i d acc e hi ⟨x5, rfl, h1⟩
      rw [Nat.zero_add] at h1 ⊢
      have hlt : i < hs.length := (List.getElem?_eq_some_iff.mp hi).1
      have hal : acc.length ≤ i := by
        rw [h1]
        exact Nat.le_trans (List.length_filter_le _ _) (by rw [List.length_take]; omega)
      have hle := H.2
      obtain ⟨j, rfl, hj⟩ := H.1 d (List.mem_of_getElem? hi)
      obtain ⟨w, hw⟩ : ∃ w, ws[j]? = some w := ⟨_, List.getElem?_eq_getElem hj⟩
      obtain ⟨ts, rfl, ht⟩ := W.1 w (List.mem_of_getElem? hw)
      have q1 := f_ixT hw
      have q2 := len_T ts
      have q3 : fSub (.int 24) (.int 2) = some (.val (.int 22)) := rfl
      have q4 := gt22 ts.length
      have q5 := long_at hw
      refine ⟨gatE hd hs fs ws (some (.val (.int n))) (some (.val (.int (j : Int)))) x6 x7, rfl, ?_⟩
      by_cases z : 22 < ts.length
      · rw [decide_eq_true z] at q4 q5
        refine .inr ⟨gatE hd hs fs ws (some (.val (.int n))) (some (.val (.int (j : Int)))) x6 x7, .tmp (.val (.int j)), gatE hd hs fs ws (some (.val (.int n))) (some (.val (.int (j : Int)))) x6 x7, .int j, gatE hd hs fs ws (some (.val (.int n))) (some (.val (.int (j : Int)))) x6 x7, ?_, x_val rfl, rfl, by omega, _, rfl, ?_⟩
        · repeat' (first | (with_reducible assumption) | (with_reducible exact x_dat) | (with_reducible exact x_nil) | (with_reducible exact y_skip) | (with_reducible exact x_retB) | (with_reducible refine x_val ?_; rfl) | (with_reducible refine x_own ?_; rfl) | (with_reducible refine x_io ?_; rfl) | (with_reducible apply x_cons) | (with_reducible apply z_T) | (with_reducible apply z_F) | (with_reducible apply y_seq) | (with_reducible apply y_set) | (with_reducible apply y_expr) | (with_reducible apply y_ret) | (with_reducible apply y_if) | (with_reducible apply x_if) | (with_reducible apply x_and) | (with_reducible apply x_or) | (with_reducible apply x_not) | (with_reducible apply x_test) | (with_reducible apply x_op2) | (with_reducible apply x_op1) | (with_reducible apply x_callB) | (with_reducible apply x_tup) | (with_reducible apply x_lst) | (with_reducible apply x_met) | (with_reducible apply x_call) | (with_reducible apply y_par2) | (with_reducible apply y_par3) | (with_reducible apply y_unp) | (with_reducible apply y_for) | (with_reducible apply x_rng1) | (with_reducible apply x_rng2) | (with_reducible apply x_seq) | (with_reducible apply x_enum) | (with_reducible apply x_still) | (with_reducible apply x_rgL1) | (with_reducible exact q1) | (with_reducible exact q2) | (with_reducible exact q3) | (with_reducible exact q4) | (with_reducible exact decide_eq_true (by omega)) | (with_reducible exact decide_eq_false (by omega)) | (with_reducible exact f_append (by omega)) | (with_reducible exact small_le (by omega)) | (with_reducible exact f_rng1 (big_of (by omega) (by omega))) | (exact ⟨.inl rfl, rfl⟩) | (exact (rfl : (_ : Bool) = true)) | (exact (rfl : (_ : Bool) = false)) | (rfl))
        · rw [h1, List.take_add_one, hi, List.filter_append]
          simp [q5]
      · rw [decide_eq_false z] at q4 q5
        refine .inl ⟨gatE hd hs fs ws (some (.val (.int n))) (some (.val (.int (j : Int)))) x6 x7, ?_, _, rfl, ?_⟩
        · repeat' (first | (with_reducible assumption) | (with_reducible exact x_dat) | (with_reducible exact x_nil) | (with_reducible exact y_skip) | (with_reducible exact x_retB) | (with_reducible refine x_val ?_; rfl) | (with_reducible refine x_own ?_; rfl) | (with_reducible refine x_io ?_; rfl) | (with_reducible apply x_cons) | (with_reducible apply z_T) | (with_reducible apply z_F) | (with_reducible apply y_seq) | (with_reducible apply y_set) | (with_reducible apply y_expr) | (with_reducible apply y_ret) | (with_reducible apply y_if) | (with_reducible apply x_if) | (with_reducible apply x_and) | (with_reducible apply x_or) | (with_reducible apply x_not) | (with_reducible apply x_test) | (with_reducible apply x_op2) | (with_reducible apply x_op1) | (with_reducible apply x_callB) | (with_reducible apply x_tup) | (with_reducible apply x_lst) | (with_reducible apply x_met) | (with_reducible apply x_call) | (with_reducible apply y_par2) | (with_reducible apply y_par3) | (with_reducible apply y_unp) | (with_reducible apply y_for) | (with_reducible apply x_rng1) | (with_reducible apply x_rng2) | (with_reducible apply x_seq) | (with_reducible apply x_enum) | (with_reducible apply x_still) | (with_reducible apply x_rgL1) | (with_reducible exact q1) | (with_reducible exact q2) | (with_reducible exact q3) | (with_reducible exact q4) | (with_reducible exact decide_eq_true (by omega)) | (with_reducible exact decide_eq_false (by omega)) | (with_reducible exact f_append (by omega)) | (with_reducible exact small_le (by omega)) | (with_reducible exact f_rng1 (big_of (by omega) (by omega))) | (exact ⟨.inl rfl, rfl⟩) | (exact (rfl : (_ : Bool) = true)) | (exact (rfl : (_ : Bool) = false)) | (rfl))
        · rw [h1, List.take_add_one, hi, List.filter_append]
          simp [q5])
  rw [Nat.zero_add, List.take_of_length_le (Nat.le_refl _)] at h2
  subst h2
  exact x_lc (mi := still (iSeq (mVar 1))) (ds := hs) (e1 := gatE hd hs fs ws (some (.val (.int n))) none x6 x7) (x_still (x_seq (x_val rfl) rfl rfl)) rfl h1
theorem gAll_step {n : Nat} {hs ws : List Dt} {i : Nat} {w : Dt} (h : ws[i]? = some w) : ((List.range (i + 1)).map fun i => gOne n hs i (ws.getD i .none)) = ((List.range i).map fun i => gOne n hs i (ws.getD i .none)) ++ [gOne n hs i w] := by
  rw [List.range_succ, List.map_append]
  simp [h]
theorem gated_body (hd : Dt) (hs fs ws found : List Dt) (n i : Nat) (w : Dt) (H : ∀ d ∈ hs, intLike d = true) (W : ∃ ts, w = .tuple ts ∧ ts.length ≤ 1000) (hf : found.length ≤ 1000) :
    bgated_2 (gatE hd hs fs ws (some (.val (.int (n : Int)))) (some (.val (.int (i : Int)))) (some (.own (.lst found))) (some (.val w))) = .nx (gatE hd hs fs ws (some (.val (.int (n : Int)))) (some (.val (.int (i : Int)))) (some (.own (.lst (found ++ [gOne n hs i w])))) (some (.val w))) := by
  obtain ⟨ts, rfl, ht⟩ := W
  have q1 := inT_ok (i := (i : Int)) H
  have q2 : fAdd (.tuple [.tuple [.str ("in" : Str), .int (n : Int)]]) (.tuple ts) = some (.val (.tuple ([.tuple [.str ("in" : Str), .int (n : Int)]] ++ ts))) := addT (by rw [List.length_singleton]; omega)
  have q3 : fAdd (.tuple ([.tuple [.str ("in" : Str), .int (n : Int)]] ++ ts)) (.tuple [.tuple [.str ("out" : Str), .int (n : Int)]]) = some (.val (.tuple ([.tuple [.str ("in" : Str), .int (n : Int)]] ++ ts ++ [.tuple [.str ("out" : Str), .int (n : Int)]]))) := addT (by rw [List.length_append, List.length_singleton, List.length_singleton]; omega)
  by_cases z : isIn (.int (i : Int)) hs = true
  · rw [z] at q1
    have e1 : gOne n hs i (.tuple ts) = .tuple ([.tuple [.str ("in" : Str), .int (n : Int)]] ++ ts ++ [.tuple [.str ("out" : Str), .int (n : Int)]]) := by unfold gOne; rw [if_pos z]
    rw [e1]
    unfold bgated_2
    apply y_end
    · repeat' (first | (with_reducible assumption) | (with_reducible exact x_dat) | (with_reducible exact x_nil) | (with_reducible exact y_skip) | (with_reducible exact x_retB) | (with_reducible refine x_val ?_; rfl) | (with_reducible refine x_own ?_; rfl) | (with_reducible refine x_io ?_; rfl) | (with_reducible apply x_cons) | (with_reducible apply z_T) | (with_reducible apply z_F) | (with_reducible apply y_seq) | (with_reducible apply y_set) | (with_reducible apply y_expr) | (with_reducible apply y_ret) | (with_reducible apply y_if) | (with_reducible apply x_if) | (with_reducible apply x_and) | (with_reducible apply x_or) | (with_reducible apply x_not) | (with_reducible apply x_test) | (with_reducible apply x_op2) | (with_reducible apply x_op1) | (with_reducible apply x_callB) | (with_reducible apply x_tup) | (with_reducible apply x_lst) | (with_reducible apply x_met) | (with_reducible apply x_call) | (with_reducible apply y_par2) | (with_reducible apply y_par3) | (with_reducible apply y_unp) | (with_reducible apply y_for) | (with_reducible apply x_rng1) | (with_reducible apply x_rng2) | (with_reducible apply x_seq) | (with_reducible apply x_enum) | (with_reducible apply x_still) | (with_reducible apply x_rgL1) | (with_reducible exact q1) | (with_reducible exact q2) | (with_reducible exact q3) | (with_reducible exact decide_eq_true (by omega)) | (with_reducible exact decide_eq_false (by omega)) | (with_reducible exact f_append (by omega)) | (with_reducible exact small_le (by omega)) | (with_reducible exact f_rng1 (big_of (by omega) (by omega))) | (exact ⟨.inl rfl, rfl⟩) | (exact (rfl : (_ : Bool) = true)) | (exact (rfl : (_ : Bool) = false)) | (rfl))
    · rfl
  · rw [Bool.not_eq_true _ |>.mp z] at q1
    have e1 : gOne n hs i (.tuple ts) = .tuple ts := by unfold gOne; rw [if_neg z]
    rw [e1]
    unfold bgated_2
    apply y_end
    · repeat' (first | (with_reducible assumption) | (with_reducible exact x_dat) | (with_reducible exact x_nil) | (with_reducible exact y_skip) | (with_reducible exact x_retB) | (with_reducible refine x_val ?_; rfl) | (with_reducible refine x_own ?_; rfl) | (with_reducible refine x_io ?_; rfl) | (with_reducible apply x_cons) | (with_reducible apply z_T) | (with_reducible apply z_F) | (with_reducible apply y_seq) | (with_reducible apply y_set) | (with_reducible apply y_expr) | (with_reducible apply y_ret) | (with_reducible apply y_if) | (with_reducible apply x_if) | (with_reducible apply x_and) | (with_reducible apply x_or) | (with_reducible apply x_not) | (with_reducible apply x_test) | (with_reducible apply x_op2) | (with_reducible apply x_op1) | (with_reducible apply x_callB) | (with_reducible apply x_tup) | (with_reducible apply x_lst) | (with_reducible apply x_met) | (with_reducible apply x_call) | (with_reducible apply y_par2) | (with_reducible apply y_par3) | (with_reducible apply y_unp) | (with_reducible apply y_for) | (with_reducible apply x_rng1) | (with_reducible apply x_rng2) | (with_reducible apply x_seq) | (with_reducible apply x_enum) | (with_reducible apply x_still) | (with_reducible apply x_rgL1) | (with_reducible exact q1) | (with_reducible exact q2) | (with_reducible exact q3) | (with_reducible exact decide_eq_true (by omega)) | (with_reducible exact decide_eq_false (by omega)) | (with_reducible exact f_append (by omega)) | (with_reducible exact small_le (by omega)) | (with_reducible exact f_rng1 (big_of (by omega) (by omega))) | (exact ⟨.inl rfl, rfl⟩) | (exact (rfl : (_ : Bool) = true)) | (exact (rfl : (_ : Bool) = false)) | (rfl))
    · rfl
theorem gated_loop (hd : Dt) (hs fs ws : List Dt) (n : Nat) (x7 : Option Tv) (H : ∀ d ∈ hs, intLike d = true) (W : Ways ws) :
    ∃ x5 x7', itF (gT 2 (gConsD (gN 5) (gConsD (gN 7) (gNilD)))) bgated_2 (enumD 0 ws) (gatE hd hs fs ws (some (.val (.int (n : Int)))) none (some (.own (.lst []))) x7) = .nx (gatE hd hs fs ws (some (.val (.int (n : Int)))) x5 (some (.own (.lst (gAll n hs ws)))) x7') := by
  obtain ⟨_, h1, x5, x7', rfl⟩ := for_eq (g := gT 2 (gConsD (gN 5) (gConsD (gN 7) (gNilD)))) (b := bgated_2)
    (fun i e => ∃ x5 x7, e = gatE hd hs fs ws (some (.val (.int (n : Int)))) x5 (some (.own (.lst ((List.range i).map fun i => gOne n hs i (ws.getD i .none))))) x7)
    (enumD 0 ws) (gatE hd hs fs ws (some (.val (.int (n : Int)))) none (some (.own (.lst []))) x7) 0 ⟨none, x7, rfl⟩ (by
      rintro i d e hi ⟨x5, x7, rfl⟩
      obtain ⟨w, h1, rfl⟩ := enum_get ws 0 i d hi
      rw [Nat.zero_add]
      have hlt : i < ws.length := (List.getElem?_eq_some_iff.mp h1).1
      have := W.2
      refine ⟨gatE hd hs fs ws (some (.val (.int (n : Int)))) (some (.val (.int (i : Int)))) (some (.own (.lst ((List.range i).map fun i => gOne n hs i (ws.getD i .none))))) (some (.val w)), _, rfl, gated_body hd hs fs ws _ n i w H (W.1 w (List.mem_of_getElem? h1)) (by rw [List.length_map, List.length_range]; omega), some (.val (.int (i : Int))), some (.val w), ?_⟩
      rw [gAll_step h1])
  rw [Nat.zero_add, enumD_length] at h1
  exact ⟨x5, x7', h1⟩
theorem gAll_len (n : Nat) (hs ws : List Dt) : (gAll n hs ws).length = ws.length := by
  unfold gAll
  rw [List.length_map, List.length_range]
theorem gated_ok (hs fs ws : List Dt) (H : Hands ws.length hs) (W : Ways ws) (hf : fs.length ≤ 900) (h6 : fs.length ≠ 6) (hl : hs.filter (longW ws) = []) :
    fgated [.val (.tuple [.tuple fs, .tuple ws]), .val (.tuple hs)] = .ok (.val (.tuple [.tuple (fs ++ [.none]), .tuple (gAll fs.length hs ws)])) none := by
  obtain ⟨hd, hhd⟩ : ∃ hd : Dt, hd = .tuple [.tuple fs, .tuple ws] := ⟨_, rfl⟩
  have q1 := len_T fs
  have q2 := feqI (fs.length : Int) 6
  rw [decide_eq_false (by omega)] at q2
  have q3 := gated_long hd hs fs ws fs.length none none H W
  rw [hl] at q3
  have q4 := neNil [] rfl
  obtain ⟨x5, x7, q5⟩ := gated_loop hd hs fs ws fs.length none H.int W
  have q6 : fAdd (.tuple fs) (.tuple [.none]) = some (.val (.tuple (fs ++ [.none]))) := addT (by rw [List.length_singleton]; omega)
  unfold fgated
  refine fn_rt (m := mgated) (n := 8) (np := 2) (r := .tmp (.val (.tuple [.tuple (fs ++ [.none]), .tuple (gAll fs.length hs ws)]))) (e := gatE hd hs fs ws (some (.val (.int (fs.length : Int)))) x5 (some (.own (.lst (gAll fs.length hs ws)))) x7) rfl ?_ rfl rfl
  rw [← hhd]
  unfold mgated
  refine y_seq (e1 := gatE hd hs fs ws none none none none) ?_ (y_seq (e1 := gatE hd hs fs ws (some (.val (.int (fs.length : Int)))) none none none) ?_ (y_seq (e1 := gatE hd hs fs ws (some (.val (.int (fs.length : Int)))) none none none) ?_ (y_seq (e1 := gatE hd hs fs ws (some (.val (.int (fs.length : Int)))) none (some (.own (.lst []))) none) ?_ (y_seq (y_for (x_enum (x_val rfl) rfl rfl) q5) ?_))))
  · subst hhd
    apply y_end
    · repeat' (first | (with_reducible assumption) | (with_reducible exact x_dat) | (with_reducible exact x_nil) | (with_reducible exact y_skip) | (with_reducible exact x_retB) | (with_reducible refine x_val ?_; rfl) | (with_reducible refine x_own ?_; rfl) | (with_reducible refine x_io ?_; rfl) | (with_reducible apply x_cons) | (with_reducible apply z_T) | (with_reducible apply z_F) | (with_reducible apply y_seq) | (with_reducible apply y_set) | (with_reducible apply y_expr) | (with_reducible apply y_ret) | (with_reducible apply y_if) | (with_reducible apply x_if) | (with_reducible apply x_and) | (with_reducible apply x_or) | (with_reducible apply x_not) | (with_reducible apply x_test) | (with_reducible apply x_op2) | (with_reducible apply x_op1) | (with_reducible apply x_callB) | (with_reducible apply x_tup) | (with_reducible apply x_lst) | (with_reducible apply x_met) | (with_reducible apply x_call) | (with_reducible apply y_par2) | (with_reducible apply y_par3) | (with_reducible apply y_unp) | (with_reducible apply y_for) | (with_reducible apply x_rng1) | (with_reducible apply x_rng2) | (with_reducible apply x_seq) | (with_reducible apply x_enum) | (with_reducible apply x_still) | (with_reducible apply x_rgL1) | (with_reducible exact decide_eq_true (by omega)) | (with_reducible exact decide_eq_false (by omega)) | (with_reducible exact f_append (by omega)) | (with_reducible exact small_le (by omega)) | (with_reducible exact f_rng1 (big_of (by omega) (by omega))) | (exact ⟨.inl rfl, rfl⟩) | (exact (rfl : (_ : Bool) = true)) | (exact (rfl : (_ : Bool) = false)) | (rfl))
    · rfl
  · apply y_end
    · repeat' (first | (with_reducible assumption) | (with_reducible exact x_dat) | (with_reducible exact x_nil) | (with_reducible exact y_skip) | (with_reducible exact x_retB) | (with_reducible refine x_val ?_; rfl) | (with_reducible refine x_own ?_; rfl) | (with_reducible refine x_io ?_; rfl) | (with_reducible apply x_cons) | (with_reducible apply z_T) | (with_reducible apply z_F) | (with_reducible apply y_seq) | (with_reducible apply y_set) | (with_reducible apply y_expr) | (with_reducible apply y_ret) | (with_reducible apply y_if) | (with_reducible apply x_if) | (with_reducible apply x_and) | (with_reducible apply x_or) | (with_reducible apply x_not) | (with_reducible apply x_test) | (with_reducible apply x_op2) | (with_reducible apply x_op1) | (with_reducible apply x_callB) | (with_reducible apply x_tup) | (with_reducible apply x_lst) | (with_reducible apply x_met) | (with_reducible apply x_call) | (with_reducible apply y_par2) | (with_reducible apply y_par3) | (with_reducible apply y_unp) | (with_reducible apply y_for) | (with_reducible apply x_rng1) | (with_reducible apply x_rng2) | (with_reducible apply x_seq) | (with_reducible apply x_enum) | (with_reducible apply x_still) | (with_reducible apply x_rgL1) | (with_reducible exact q1) | (with_reducible exact decide_eq_true (by omega)) | (with_reducible exact decide_eq_false (by omega)) | (with_reducible exact f_append (by omega)) | (with_reducible exact small_le (by omega)) | (with_reducible exact f_rng1 (big_of (by omega) (by omega))) | (exact ⟨.inl rfl, rfl⟩) | (exact (rfl : (_ : Bool) = true)) | (exact (rfl : (_ : Bool) = false)) | (rfl))
    · rfl
  · apply y_end
    · repeat' (first | (with_reducible assumption) | (with_reducible exact x_dat) | (with_reducible exact x_nil) | (with_reducible exact y_skip) | (with_reducible exact x_retB) | (with_reducible refine x_val ?_; rfl) | (with_reducible refine x_own ?_; rfl) | (with_reducible refine x_io ?_; rfl) | (with_reducible apply x_cons) | (with_reducible apply z_T) | (with_reducible apply z_F) | (with_reducible apply y_seq) | (with_reducible apply y_set) | (with_reducible apply y_expr) | (with_reducible apply y_ret) | (with_reducible apply y_if) | (with_reducible apply x_if) | (with_reducible apply x_and) | (with_reducible apply x_or) | (with_reducible apply x_not) | (with_reducible apply x_test) | (with_reducible apply x_op2) | (with_reducible apply x_op1) | (with_reducible apply x_callB) | (with_reducible apply x_tup) | (with_reducible apply x_lst) | (with_reducible apply x_met) | (with_reducible apply x_call) | (with_reducible apply y_par2) | (with_reducible apply y_par3) | (with_reducible apply y_unp) | (with_reducible apply y_for) | (with_reducible apply x_rng1) | (with_reducible apply x_rng2) | (with_reducible apply x_seq) | (with_reducible apply x_enum) | (with_reducible apply x_still) | (with_reducible apply x_rgL1) | (with_reducible exact q2) | (with_reducible exact q4) | ((with_reducible show lgated_1 _ = _); exact q3) | (with_reducible exact decide_eq_true (by omega)) | (with_reducible exact decide_eq_false (by omega)) | (with_reducible exact f_append (by omega)) | (with_reducible exact small_le (by omega)) | (with_reducible exact f_rng1 (big_of (by omega) (by omega))) | (exact ⟨.inl rfl, rfl⟩) | (exact (rfl : (_ : Bool) = true)) | (exact (rfl : (_ : Bool) = false)) | (rfl))
    · rfl
  · apply y_end
    · repeat' (first | (with_reducible assumption) | (with_reducible exact x_dat) | (with_reducible exact x_nil) | (with_reducible exact y_skip) | (with_reducible exact x_retB) | (with_reducible refine x_val ?_; rfl) | (with_reducible refine x_own ?_; rfl) | (with_reducible refine x_io ?_; rfl) | (with_reducible apply x_cons) | (with_reducible apply z_T) | (with_reducible apply z_F) | (with_reducible apply y_seq) | (with_reducible apply y_set) | (with_reducible apply y_expr) | (with_reducible apply y_ret) | (with_reducible apply y_if) | (with_reducible apply x_if) | (with_reducible apply x_and) | (with_reducible apply x_or) | (with_reducible apply x_not) | (with_reducible apply x_test) | (with_reducible apply x_op2) | (with_reducible apply x_op1) | (with_reducible apply x_callB) | (with_reducible apply x_tup) | (with_reducible apply x_lst) | (with_reducible apply x_met) | (with_reducible apply x_call) | (with_reducible apply y_par2) | (with_reducible apply y_par3) | (with_reducible apply y_unp) | (with_reducible apply y_for) | (with_reducible apply x_rng1) | (with_reducible apply x_rng2) | (with_reducible apply x_seq) | (with_reducible apply x_enum) | (with_reducible apply x_still) | (with_reducible apply x_rgL1) | (with_reducible exact decide_eq_true (by omega)) | (with_reducible exact decide_eq_false (by omega)) | (with_reducible exact f_append (by omega)) | (with_reducible exact small_le (by omega)) | (with_reducible exact f_rng1 (big_of (by omega) (by omega))) | (exact ⟨.inl rfl, rfl⟩) | (exact (rfl : (_ : Bool) = true)) | (exact (rfl : (_ : Bool) = false)) | (rfl))
    · rfl
  · repeat' (first | (with_reducible assumption) | (with_reducible exact x_dat) | (with_reducible exact x_nil) | (with_reducible exact y_skip) | (with_reducible exact x_retB) | (with_reducible refine x_val ?_; rfl) | (with_reducible refine x_own ?_; rfl) | (with_reducible refine x_io ?_; rfl) | (with_reducible apply x_cons) | (with_reducible apply z_T) | (with_reducible apply z_F) | (with_reducible apply y_seq) | (with_reducible apply y_set) | (with_reducible apply y_expr) | (with_reducible apply y_ret) | (with_reducible apply y_if) | (with_reducible apply x_if) | (with_reducible apply x_and) | (with_reducible apply x_or) | (with_reducible apply x_not) | (with_reducible apply x_test) | (with_reducible apply x_op2) | (with_reducible apply x_op1) | (with_reducible apply x_callB) | (with_reducible apply x_tup) | (with_reducible apply x_lst) | (with_reducible apply x_met) | (with_reducible apply x_call) | (with_reducible apply y_par2) | (with_reducible apply y_par3) | (with_reducible apply y_unp) | (with_reducible apply y_for) | (with_reducible apply x_rng1) | (with_reducible apply x_rng2) | (with_reducible apply x_seq) | (with_reducible apply x_enum) | (with_reducible apply x_still) | (with_reducible apply x_rgL1) | (with_reducible exact q6) | (with_reducible exact decide_eq_true (by omega)) | (with_reducible exact decide_eq_false (by omega)) | (with_reducible exact f_append (by omega)) | (with_reducible exact small_le (by omega)) | (with_reducible exact f_rng1 (big_of (by omega) (by omega))) | (exact ⟨.inl rfl, rfl⟩) | (exact (rfl : (_ : Bool) = true)) | (exact (rfl : (_ : Bool) = false)) | (rfl))
theorem gated_er (hs fs ws : List Dt) (H : Hands ws.length hs) (W : Ways ws) (hb : fs.length = 6 ∨ hs.filter (longW ws) ≠ []) :
    fgated [.val (.tuple [.tuple fs, .tuple ws]), .val (.tuple hs)] = .er ⟨("Unfit" : Str), none⟩ none := by
  obtain ⟨hd, hhd⟩ : ∃ hd : Dt, hd = .tuple [.tuple fs, .tuple ws] := ⟨_, rfl⟩
  have q1 := len_T fs
  have q2 := feqI (fs.length : Int) 6
  have q3 := gated_long hd hs fs ws fs.length none none H W
  have q4 := neNil (hs.filter (longW ws)) (shaped_flat _ fun d hd => flat_int (H.int d (List.mem_filter.mp hd).1))
  unfold fgated
  refine fn_er (m := mgated) (n := 8) (np := 2) (e := gatE hd hs fs ws (some (.val (.int (fs.length : Int)))) none none none) rfl ?_ rfl
  rw [← hhd]
  unfold mgated
  refine y_seq (e1 := gatE hd hs fs ws none none none none) ?_ (y_seq (e1 := gatE hd hs fs ws (some (.val (.int (fs.length : Int)))) none none none) ?_ (y_seqE ?_))
  · subst hhd
    apply y_end
    · repeat' (first | (with_reducible assumption) | (with_reducible exact x_dat) | (with_reducible exact x_nil) | (with_reducible exact y_skip) | (with_reducible exact x_retB) | (with_reducible refine x_val ?_; rfl) | (with_reducible refine x_own ?_; rfl) | (with_reducible refine x_io ?_; rfl) | (with_reducible apply x_cons) | (with_reducible apply z_T) | (with_reducible apply z_F) | (with_reducible apply y_seq) | (with_reducible apply y_set) | (with_reducible apply y_expr) | (with_reducible apply y_ret) | (with_reducible apply y_if) | (with_reducible apply x_if) | (with_reducible apply x_and) | (with_reducible apply x_or) | (with_reducible apply x_not) | (with_reducible apply x_test) | (with_reducible apply x_op2) | (with_reducible apply x_op1) | (with_reducible apply x_callB) | (with_reducible apply x_tup) | (with_reducible apply x_lst) | (with_reducible apply x_met) | (with_reducible apply x_call) | (with_reducible apply y_par2) | (with_reducible apply y_par3) | (with_reducible apply y_unp) | (with_reducible apply y_for) | (with_reducible apply x_rng1) | (with_reducible apply x_rng2) | (with_reducible apply x_seq) | (with_reducible apply x_enum) | (with_reducible apply x_still) | (with_reducible apply x_rgL1) | (with_reducible exact decide_eq_true (by omega)) | (with_reducible exact decide_eq_false (by omega)) | (with_reducible exact f_append (by omega)) | (with_reducible exact small_le (by omega)) | (with_reducible exact f_rng1 (big_of (by omega) (by omega))) | (exact ⟨.inl rfl, rfl⟩) | (exact (rfl : (_ : Bool) = true)) | (exact (rfl : (_ : Bool) = false)) | (rfl))
    · rfl
  · apply y_end
    · repeat' (first | (with_reducible assumption) | (with_reducible exact x_dat) | (with_reducible exact x_nil) | (with_reducible exact y_skip) | (with_reducible exact x_retB) | (with_reducible refine x_val ?_; rfl) | (with_reducible refine x_own ?_; rfl) | (with_reducible refine x_io ?_; rfl) | (with_reducible apply x_cons) | (with_reducible apply z_T) | (with_reducible apply z_F) | (with_reducible apply y_seq) | (with_reducible apply y_set) | (with_reducible apply y_expr) | (with_reducible apply y_ret) | (with_reducible apply y_if) | (with_reducible apply x_if) | (with_reducible apply x_and) | (with_reducible apply x_or) | (with_reducible apply x_not) | (with_reducible apply x_test) | (with_reducible apply x_op2) | (with_reducible apply x_op1) | (with_reducible apply x_callB) | (with_reducible apply x_tup) | (with_reducible apply x_lst) | (with_reducible apply x_met) | (with_reducible apply x_call) | (with_reducible apply y_par2) | (with_reducible apply y_par3) | (with_reducible apply y_unp) | (with_reducible apply y_for) | (with_reducible apply x_rng1) | (with_reducible apply x_rng2) | (with_reducible apply x_seq) | (with_reducible apply x_enum) | (with_reducible apply x_still) | (with_reducible apply x_rgL1) | (with_reducible exact q1) | (with_reducible exact decide_eq_true (by omega)) | (with_reducible exact decide_eq_false (by omega)) | (with_reducible exact f_append (by omega)) | (with_reducible exact small_le (by omega)) | (with_reducible exact f_rng1 (big_of (by omega) (by omega))) | (exact ⟨.inl rfl, rfl⟩) | (exact (rfl : (_ : Bool) = true)) | (exact (rfl : (_ : Bool) = false)) | (rfl))
    · rfl
  · by_cases z : fs.length = 6
    · rw [decide_eq_true (by omega)] at q2
      refine y_ifT (b := true) (e1 := gatE hd hs fs ws (some (.val (.int (fs.length : Int)))) none none none) ?_ rfl rfl
      repeat' (first | (with_reducible assumption) | (with_reducible exact x_dat) | (with_reducible exact x_nil) | (with_reducible exact y_skip) | (with_reducible exact x_retB) | (with_reducible refine x_val ?_; rfl) | (with_reducible refine x_own ?_; rfl) | (with_reducible refine x_io ?_; rfl) | (with_reducible apply x_cons) | (with_reducible apply z_T) | (with_reducible apply z_F) | (with_reducible apply y_seq) | (with_reducible apply y_set) | (with_reducible apply y_expr) | (with_reducible apply y_ret) | (with_reducible apply y_if) | (with_reducible apply x_if) | (with_reducible apply x_and) | (with_reducible apply x_or) | (with_reducible apply x_not) | (with_reducible apply x_test) | (with_reducible apply x_op2) | (with_reducible apply x_op1) | (with_reducible apply x_callB) | (with_reducible apply x_tup) | (with_reducible apply x_lst) | (with_reducible apply x_met) | (with_reducible apply x_call) | (with_reducible apply y_par2) | (with_reducible apply y_par3) | (with_reducible apply y_unp) | (with_reducible apply y_for) | (with_reducible apply x_rng1) | (with_reducible apply x_rng2) | (with_reducible apply x_seq) | (with_reducible apply x_enum) | (with_reducible apply x_still) | (with_reducible apply x_rgL1) | (with_reducible exact q2) | (with_reducible exact decide_eq_true (by omega)) | (with_reducible exact decide_eq_false (by omega)) | (with_reducible exact f_append (by omega)) | (with_reducible exact small_le (by omega)) | (with_reducible exact f_rng1 (big_of (by omega) (by omega))) | (exact ⟨.inl rfl, rfl⟩) | (exact (rfl : (_ : Bool) = true)) | (exact (rfl : (_ : Bool) = false)) | (rfl))
    · have zz : (hs.filter (longW ws)).isEmpty = false := by
        cases hc : (hs.filter (longW ws)).isEmpty with
        | false => rfl
        | true => exact absurd (List.isEmpty_iff.mp hc) (hb.resolve_left z)
      rw [decide_eq_false (by omega)] at q2
      rw [zz] at q4
      refine y_ifT (b := true) (e1 := gatE hd hs fs ws (some (.val (.int (fs.length : Int)))) none none none) ?_ rfl rfl
      repeat' (first | (with_reducible assumption) | (with_reducible exact x_dat) | (with_reducible exact x_nil) | (with_reducible exact y_skip) | (with_reducible exact x_retB) | (with_reducible refine x_val ?_; rfl) | (with_reducible refine x_own ?_; rfl) | (with_reducible refine x_io ?_; rfl) | (with_reducible apply x_cons) | (with_reducible apply z_T) | (with_reducible apply z_F) | (with_reducible apply y_seq) | (with_reducible apply y_set) | (with_reducible apply y_expr) | (with_reducible apply y_ret) | (with_reducible apply y_if) | (with_reducible apply x_if) | (with_reducible apply x_and) | (with_reducible apply x_or) | (with_reducible apply x_not) | (with_reducible apply x_test) | (with_reducible apply x_op2) | (with_reducible apply x_op1) | (with_reducible apply x_callB) | (with_reducible apply x_tup) | (with_reducible apply x_lst) | (with_reducible apply x_met) | (with_reducible apply x_call) | (with_reducible apply y_par2) | (with_reducible apply y_par3) | (with_reducible apply y_unp) | (with_reducible apply y_for) | (with_reducible apply x_rng1) | (with_reducible apply x_rng2) | (with_reducible apply x_seq) | (with_reducible apply x_enum) | (with_reducible apply x_still) | (with_reducible apply x_rgL1) | (with_reducible exact q2) | (with_reducible exact q4) | ((with_reducible show lgated_1 _ = _); exact q3) | (with_reducible exact decide_eq_true (by omega)) | (with_reducible exact decide_eq_false (by omega)) | (with_reducible exact f_append (by omega)) | (with_reducible exact small_le (by omega)) | (with_reducible exact f_rng1 (big_of (by omega) (by omega))) | (exact ⟨.inl rfl, rfl⟩) | (exact (rfl : (_ : Bool) = true)) | (exact (rfl : (_ : Bool) = false)) | (rfl))
/-! ### the law's own -/
abbrev lgE (hd : Dt) (hs fs ws : List Dt) (x4 x5 x6 : Option Tv) : En := [some (.val hd), some (.val (.tuple hs)), some (.val (.tuple fs)), some (.val (.tuple ws)), x4, x5, x6]
theorem lg_body (hd : Dt) (hs fs ws found : List Dt) (i : Nat) (w : Dt) (H : ∀ d ∈ hs, intLike d = true) (W : ∃ ts, w = .tuple ts ∧ ts.length ≤ 1000) (hf : found.length ≤ 1000) :
    b_law_gated_1 (lgE hd hs fs ws (some (.own (.lst found))) (some (.val (.int (i : Int)))) (some (.val w))) = .nx (lgE hd hs fs ws (some (.own (.lst (found ++ [gOne fs.length hs i w])))) (some (.val (.int (i : Int)))) (some (.val w))) := by
  obtain ⟨ts, rfl, ht⟩ := W
  have q0 := len_T fs
  have q1 := inT_ok (i := (i : Int)) H
  have q2 : fAdd (.tuple [.tuple [.str ("in" : Str), .int (fs.length : Int)]]) (.tuple ts) = some (.val (.tuple ([.tuple [.str ("in" : Str), .int (fs.length : Int)]] ++ ts))) := addT (by rw [List.length_singleton]; omega)
  have q3 : fAdd (.tuple ([.tuple [.str ("in" : Str), .int (fs.length : Int)]] ++ ts)) (.tuple [.tuple [.str ("out" : Str), .int (fs.length : Int)]]) = some (.val (.tuple ([.tuple [.str ("in" : Str), .int (fs.length : Int)]] ++ ts ++ [.tuple [.str ("out" : Str), .int (fs.length : Int)]]))) := addT (by rw [List.length_append, List.length_singleton, List.length_singleton]; omega)
  by_cases z : isIn (.int (i : Int)) hs = true
  · rw [z] at q1
    have e1 : gOne fs.length hs i (.tuple ts) = .tuple ([.tuple [.str ("in" : Str), .int (fs.length : Int)]] ++ ts ++ [.tuple [.str ("out" : Str), .int (fs.length : Int)]]) := by unfold gOne; rw [if_pos z]
    rw [e1]
    unfold b_law_gated_1
    apply y_end
    · repeat' (first | (with_reducible assumption) | (with_reducible exact x_dat) | (with_reducible exact x_nil) | (with_reducible exact y_skip) | (with_reducible exact x_retB) | (with_reducible refine x_val ?_; rfl) | (with_reducible refine x_own ?_; rfl) | (with_reducible refine x_io ?_; rfl) | (with_reducible apply x_cons) | (with_reducible apply z_T) | (with_reducible apply z_F) | (with_reducible apply y_seq) | (with_reducible apply y_set) | (with_reducible apply y_expr) | (with_reducible apply y_ret) | (with_reducible apply y_if) | (with_reducible apply x_if) | (with_reducible apply x_and) | (with_reducible apply x_or) | (with_reducible apply x_not) | (with_reducible apply x_test) | (with_reducible apply x_op2) | (with_reducible apply x_op1) | (with_reducible apply x_callB) | (with_reducible apply x_tup) | (with_reducible apply x_lst) | (with_reducible apply x_met) | (with_reducible apply x_call) | (with_reducible apply y_par2) | (with_reducible apply y_par3) | (with_reducible apply y_unp) | (with_reducible apply y_for) | (with_reducible apply x_rng1) | (with_reducible apply x_rng2) | (with_reducible apply x_seq) | (with_reducible apply x_enum) | (with_reducible apply x_still) | (with_reducible apply x_rgL1) | (with_reducible exact q0) | (with_reducible exact q1) | (with_reducible exact q2) | (with_reducible exact q3) | (with_reducible exact decide_eq_true (by omega)) | (with_reducible exact decide_eq_false (by omega)) | (with_reducible exact f_append (by omega)) | (with_reducible exact small_le (by omega)) | (with_reducible exact f_rng1 (big_of (by omega) (by omega))) | (exact ⟨.inl rfl, rfl⟩) | (exact (rfl : (_ : Bool) = true)) | (exact (rfl : (_ : Bool) = false)) | (rfl))
    · rfl
  · rw [Bool.not_eq_true _ |>.mp z] at q1
    have e1 : gOne fs.length hs i (.tuple ts) = .tuple ts := by unfold gOne; rw [if_neg z]
    rw [e1]
    unfold b_law_gated_1
    apply y_end
    · repeat' (first | (with_reducible assumption) | (with_reducible exact x_dat) | (with_reducible exact x_nil) | (with_reducible exact y_skip) | (with_reducible exact x_retB) | (with_reducible refine x_val ?_; rfl) | (with_reducible refine x_own ?_; rfl) | (with_reducible refine x_io ?_; rfl) | (with_reducible apply x_cons) | (with_reducible apply z_T) | (with_reducible apply z_F) | (with_reducible apply y_seq) | (with_reducible apply y_set) | (with_reducible apply y_expr) | (with_reducible apply y_ret) | (with_reducible apply y_if) | (with_reducible apply x_if) | (with_reducible apply x_and) | (with_reducible apply x_or) | (with_reducible apply x_not) | (with_reducible apply x_test) | (with_reducible apply x_op2) | (with_reducible apply x_op1) | (with_reducible apply x_callB) | (with_reducible apply x_tup) | (with_reducible apply x_lst) | (with_reducible apply x_met) | (with_reducible apply x_call) | (with_reducible apply y_par2) | (with_reducible apply y_par3) | (with_reducible apply y_unp) | (with_reducible apply y_for) | (with_reducible apply x_rng1) | (with_reducible apply x_rng2) | (with_reducible apply x_seq) | (with_reducible apply x_enum) | (with_reducible apply x_still) | (with_reducible apply x_rgL1) | (with_reducible exact q0) | (with_reducible exact q1) | (with_reducible exact q2) | (with_reducible exact q3) | (with_reducible exact decide_eq_true (by omega)) | (with_reducible exact decide_eq_false (by omega)) | (with_reducible exact f_append (by omega)) | (with_reducible exact small_le (by omega)) | (with_reducible exact f_rng1 (big_of (by omega) (by omega))) | (exact ⟨.inl rfl, rfl⟩) | (exact (rfl : (_ : Bool) = true)) | (exact (rfl : (_ : Bool) = false)) | (rfl))
    · rfl
theorem lg_ok (hs fs ws : List Dt) (H : Hands ws.length hs) (W : Ways ws) (hf : fs.length ≤ 900) :
    f_law_gated [.val (.tuple [.tuple fs, .tuple ws]), .val (.tuple hs)] = .ok (.val (.tuple [.tuple (fs ++ [.none]), .tuple (gAll fs.length hs ws)])) none := by
  obtain ⟨hd, hhd⟩ : ∃ hd : Dt, hd = .tuple [.tuple fs, .tuple ws] := ⟨_, rfl⟩
  obtain ⟨_, h1, x5, x6, rfl⟩ := for_eq (g := gT 2 (gConsD (gN 5) (gConsD (gN 6) (gNilD)))) (b := b_law_gated_1)
    (fun i e => ∃ x5 x6, e = lgE hd hs fs ws (some (.own (.lst ((List.range i).map fun i => gOne fs.length hs i (ws.getD i .none))))) x5 x6)
    (enumD 0 ws) (lgE hd hs fs ws (some (.own (.lst []))) none none) 0 ⟨none, none, rfl⟩ (by
      rintro i d e hi ⟨x5, x7, rfl⟩
      obtain ⟨w, h1, rfl⟩ := enum_get ws 0 i d hi
      rw [Nat.zero_add]
      have hlt : i < ws.length := (List.getElem?_eq_some_iff.mp h1).1
      have := W.2
      refine ⟨lgE hd hs fs ws (some (.own (.lst ((List.range i).map fun i => gOne fs.length hs i (ws.getD i .none))))) (some (.val (.int (i : Int)))) (some (.val w)), _, rfl, lg_body hd hs fs ws _ i w H.int (W.1 w (List.mem_of_getElem? h1)) (by rw [List.length_map, List.length_range]; omega), some (.val (.int (i : Int))), some (.val w), ?_⟩
      rw [gAll_step h1])
  rw [Nat.zero_add, enumD_length] at h1
  have q6 : fAdd (.tuple fs) (.tuple [.none]) = some (.val (.tuple (fs ++ [.none]))) := addT (by rw [List.length_singleton]; omega)
  unfold f_law_gated
  refine fn_rt (m := m_law_gated) (n := 7) (np := 2) (r := .tmp (.val (.tuple [.tuple (fs ++ [.none]), .tuple (gAll fs.length hs ws)]))) (e := lgE hd hs fs ws (some (.own (.lst (gAll fs.length hs ws)))) x5 x6) rfl ?_ rfl rfl
  rw [← hhd]
  unfold m_law_gated
  refine y_seq (e1 := lgE hd hs fs ws none none none) ?_ (y_seq (e1 := lgE hd hs fs ws (some (.own (.lst []))) none none) ?_ (y_seq (y_for (x_enum (x_val rfl) rfl rfl) h1) ?_))
  · subst hhd
    apply y_end
    · repeat' (first | (with_reducible assumption) | (with_reducible exact x_dat) | (with_reducible exact x_nil) | (with_reducible exact y_skip) | (with_reducible exact x_retB) | (with_reducible refine x_val ?_; rfl) | (with_reducible refine x_own ?_; rfl) | (with_reducible refine x_io ?_; rfl) | (with_reducible apply x_cons) | (with_reducible apply z_T) | (with_reducible apply z_F) | (with_reducible apply y_seq) | (with_reducible apply y_set) | (with_reducible apply y_expr) | (with_reducible apply y_ret) | (with_reducible apply y_if) | (with_reducible apply x_if) | (with_reducible apply x_and) | (with_reducible apply x_or) | (with_reducible apply x_not) | (with_reducible apply x_test) | (with_reducible apply x_op2) | (with_reducible apply x_op1) | (with_reducible apply x_callB) | (with_reducible apply x_tup) | (with_reducible apply x_lst) | (with_reducible apply x_met) | (with_reducible apply x_call) | (with_reducible apply y_par2) | (with_reducible apply y_par3) | (with_reducible apply y_unp) | (with_reducible apply y_for) | (with_reducible apply x_rng1) | (with_reducible apply x_rng2) | (with_reducible apply x_seq) | (with_reducible apply x_enum) | (with_reducible apply x_still) | (with_reducible apply x_rgL1) | (with_reducible exact decide_eq_true (by omega)) | (with_reducible exact decide_eq_false (by omega)) | (with_reducible exact f_append (by omega)) | (with_reducible exact small_le (by omega)) | (with_reducible exact f_rng1 (big_of (by omega) (by omega))) | (exact ⟨.inl rfl, rfl⟩) | (exact (rfl : (_ : Bool) = true)) | (exact (rfl : (_ : Bool) = false)) | (rfl))
    · rfl
  · apply y_end
    · repeat' (first | (with_reducible assumption) | (with_reducible exact x_dat) | (with_reducible exact x_nil) | (with_reducible exact y_skip) | (with_reducible exact x_retB) | (with_reducible refine x_val ?_; rfl) | (with_reducible refine x_own ?_; rfl) | (with_reducible refine x_io ?_; rfl) | (with_reducible apply x_cons) | (with_reducible apply z_T) | (with_reducible apply z_F) | (with_reducible apply y_seq) | (with_reducible apply y_set) | (with_reducible apply y_expr) | (with_reducible apply y_ret) | (with_reducible apply y_if) | (with_reducible apply x_if) | (with_reducible apply x_and) | (with_reducible apply x_or) | (with_reducible apply x_not) | (with_reducible apply x_test) | (with_reducible apply x_op2) | (with_reducible apply x_op1) | (with_reducible apply x_callB) | (with_reducible apply x_tup) | (with_reducible apply x_lst) | (with_reducible apply x_met) | (with_reducible apply x_call) | (with_reducible apply y_par2) | (with_reducible apply y_par3) | (with_reducible apply y_unp) | (with_reducible apply y_for) | (with_reducible apply x_rng1) | (with_reducible apply x_rng2) | (with_reducible apply x_seq) | (with_reducible apply x_enum) | (with_reducible apply x_still) | (with_reducible apply x_rgL1) | (with_reducible exact decide_eq_true (by omega)) | (with_reducible exact decide_eq_false (by omega)) | (with_reducible exact f_append (by omega)) | (with_reducible exact small_le (by omega)) | (with_reducible exact f_rng1 (big_of (by omega) (by omega))) | (exact ⟨.inl rfl, rfl⟩) | (exact (rfl : (_ : Bool) = true)) | (exact (rfl : (_ : Bool) = false)) | (rfl))
    · rfl
  · repeat' (first | (with_reducible assumption) | (with_reducible exact x_dat) | (with_reducible exact x_nil) | (with_reducible exact y_skip) | (with_reducible exact x_retB) | (with_reducible refine x_val ?_; rfl) | (with_reducible refine x_own ?_; rfl) | (with_reducible refine x_io ?_; rfl) | (with_reducible apply x_cons) | (with_reducible apply z_T) | (with_reducible apply z_F) | (with_reducible apply y_seq) | (with_reducible apply y_set) | (with_reducible apply y_expr) | (with_reducible apply y_ret) | (with_reducible apply y_if) | (with_reducible apply x_if) | (with_reducible apply x_and) | (with_reducible apply x_or) | (with_reducible apply x_not) | (with_reducible apply x_test) | (with_reducible apply x_op2) | (with_reducible apply x_op1) | (with_reducible apply x_callB) | (with_reducible apply x_tup) | (with_reducible apply x_lst) | (with_reducible apply x_met) | (with_reducible apply x_call) | (with_reducible apply y_par2) | (with_reducible apply y_par3) | (with_reducible apply y_unp) | (with_reducible apply y_for) | (with_reducible apply x_rng1) | (with_reducible apply x_rng2) | (with_reducible apply x_seq) | (with_reducible apply x_enum) | (with_reducible apply x_still) | (with_reducible apply x_rgL1) | (with_reducible exact q6) | (with_reducible exact decide_eq_true (by omega)) | (with_reducible exact decide_eq_false (by omega)) | (with_reducible exact f_append (by omega)) | (with_reducible exact small_le (by omega)) | (with_reducible exact f_rng1 (big_of (by omega) (by omega))) | (exact ⟨.inl rfl, rfl⟩) | (exact (rfl : (_ : Bool) = true)) | (exact (rfl : (_ : Bool) = false)) | (rfl))
end KD


namespace KD
open PySem PySem.Spec L2 VL
open PyProof.Rows hiding St
/-! ### the pot -/
theorem cut_mem {xs : List Dt} {lo hi : Option Int} {d : Dt} (h : d ∈ VL.cutD xs lo hi) : d ∈ xs := List.mem_of_mem_drop (List.mem_of_mem_take h)
theorem cut_len (xs : List Dt) (lo hi : Option Int) : (VL.cutD xs lo hi).length ≤ xs.length := by
  unfold VL.cutD
  rw [List.length_take, List.length_drop]
  omega
theorem asInts_map : ∀ cs : List Int, asInts (cs.map PyData.int) = some cs
  | [] => rfl
  | c :: cs => by
    show (asInts (cs.map PyData.int)).map _ = _
    rw [asInts_map cs]
    rfl
abbrev potE (ns : List Int) (x1 x2 x3 : Option Tv) : En := [some (.io (.scr ns)), x1, x2, x3]
theorem pot_cells (ns : List Int) (hn : ns.length ≤ 100) :
    ∃ cs : List Int, l_law_pot_1 (potE ns none none none) = .ok (.tmp (.own (.lst (cs.map PyData.int)))) (potE ns none none none) ∧ cs.length ≤ ns.length := by
  obtain ⟨xs, hxs⟩ : ∃ xs, xs = VL.cutD (ns.map PyData.int) none (some 63) := ⟨_, rfl⟩
  have hlen : xs.length ≤ ns.length := by
    rw [hxs]
    exact Nat.le_trans (cut_len _ _ _) (by rw [List.length_map]; exact Nat.le_refl _)
  obtain ⟨acc, e', h1, x1, cs, rfl, rfl, h2⟩ := itL_eq (g := gN 1) (t := M.ret true) (m := mOp2 fAdd (mOp2 fMul (mDat (.int 2)) (mCallB fAbs (mCons (mVar 1) (M.ret [])))) (mCallB fInt (mCons (mOp2 fLt (mVar 1) (mDat (.int 0))) (M.ret [])))) (vs := [1]) (all := xs)
    (fun i acc e => ∃ x1, ∃ cs : List Int, e = potE ns x1 none none ∧ acc = cs.map PyData.int ∧ cs.length = i)
    xs [] (potE ns none none none) 0 ⟨none, [], rfl, rfl, rfl⟩ (by
      rintro i d acc e hi ⟨x1, cs, rfl, rfl, h2⟩
      rw [Nat.zero_add] at h2 ⊢
      have hlt : i < xs.length := (List.getElem?_eq_some_iff.mp hi).1
      have hm : d ∈ xs := List.mem_of_getElem? hi
      rw [hxs] at hm
      obtain ⟨a, _, rfl⟩ := List.mem_map.mp (cut_mem hm)
      have q1 : fAbs [.int a] = some (.val (.int (if a < 0 then -a else a))) := rfl
      have q2 : fMul (.int 2) (.int (if a < 0 then -a else a)) = some (.val (.int (2 * (if a < 0 then -a else a)))) := rfl
      have q3 := fLtI a 0
      have q4 : fInt [.bool (decide (a < 0))] = some (.val (.int (if decide (a < 0) = true then 1 else 0))) := rfl
      have q5 : fAdd (.int (2 * (if a < 0 then -a else a))) (.int (if decide (a < 0) = true then 1 else 0)) = some (.val (.int (2 * (if a < 0 then -a else a) + (if decide (a < 0) = true then 1 else 0)))) := rfl
      refine ⟨potE ns (some (.val (.int a))) none none, rfl, .inr ⟨potE ns (some (.val (.int a))) none none, .tmp (.val (.int (2 * (if a < 0 then -a else a) + (if decide (a < 0) = true then 1 else 0)))), potE ns (some (.val (.int a))) none none, .int (2 * (if a < 0 then -a else a) + (if decide (a < 0) = true then 1 else 0)), potE ns (some (.val (.int a))) none none, rfl, ?_, rfl, by rw [List.length_map]; omega, some (.val (.int a)), cs ++ [2 * (if a < 0 then -a else a) + (if decide (a < 0) = true then 1 else 0)], rfl, by rw [List.map_append]; rfl, by rw [List.length_append, List.length_singleton]; omega⟩⟩
      repeat' (first | (with_reducible assumption) | (with_reducible exact x_dat) | (with_reducible exact x_nil) | (with_reducible exact y_skip) | (with_reducible exact x_retB) | (with_reducible refine x_val ?_; rfl) | (with_reducible refine x_own ?_; rfl) | (with_reducible refine x_io ?_; rfl) | (with_reducible apply x_cons) | (with_reducible apply z_T) | (with_reducible apply z_F) | (with_reducible apply y_seq) | (with_reducible apply y_set) | (with_reducible apply y_expr) | (with_reducible apply y_ret) | (with_reducible apply y_if) | (with_reducible apply x_if) | (with_reducible apply x_and) | (with_reducible apply x_or) | (with_reducible apply x_not) | (with_reducible apply x_test) | (with_reducible apply x_op2) | (with_reducible apply x_op1) | (with_reducible apply x_callB) | (with_reducible apply x_tup) | (with_reducible apply x_lst) | (with_reducible apply x_met) | (with_reducible apply x_call) | (with_reducible apply y_par2) | (with_reducible apply y_par3) | (with_reducible apply y_unp) | (with_reducible apply y_for) | (with_reducible apply x_rng1) | (with_reducible apply x_rng2) | (with_reducible apply x_seq) | (with_reducible apply x_enum) | (with_reducible apply x_still) | (with_reducible apply x_rgL1) | (with_reducible exact q1) | (with_reducible exact q2) | (with_reducible exact q3) | (with_reducible exact q4) | (with_reducible exact q5) | (with_reducible exact decide_eq_true (by omega)) | (with_reducible exact decide_eq_false (by omega)) | (with_reducible exact f_append (by omega)) | (with_reducible exact small_le (by omega)) | (with_reducible exact f_rng1 (big_of (by omega) (by omega))) | (exact ⟨.inl rfl, rfl⟩) | (exact (rfl : (_ : Bool) = true)) | (exact (rfl : (_ : Bool) = false)) | (rfl)))
  rw [Nat.zero_add] at h2
  refine ⟨cs, ?_, by omega⟩
  refine x_lc (mi := still (iSeq (mScr 0 63))) (ds := xs) (e1 := potE ns none none none) (x_still (x_seq (r := .tmp (.own (.lst xs))) (e1 := potE ns none none none) ?_ rfl rfl)) rfl h1
  rw [hxs]
  rfl
theorem pot_mix (ns : List Int) (xs : List Dt) (hx : ∀ d ∈ xs, intLike d = true) (x1 : Option Tv) (m : Int) (y : List Dt) :
    ∃ x1' m', (x1' = x1 ∨ ∃ d, x1' = some (.val d)) ∧ itF (gN 1) b_law_pot_2 xs (potE ns x1 (some (.val (.list y))) (some (.val (.int m)))) = .nx (potE ns x1' (some (.val (.list y))) (some (.val (.int m')))) := by
  obtain ⟨_, h1, x1', m', rfl, h2⟩ := for_eq (g := gN 1) (b := b_law_pot_2)
    (fun i e => ∃ y1 m, e = potE ns y1 (some (.val (.list y))) (some (.val (.int m))) ∧ (y1 = x1 ∨ ∃ d, y1 = some (.val d)))
    xs (potE ns x1 (some (.val (.list y))) (some (.val (.int m)))) 0 ⟨x1, m, rfl, .inl rfl⟩ (by
      rintro i d e hi ⟨y1, m, rfl, _⟩
      have hd := hx d (List.mem_of_getElem? hi)
      cases d with
      | int a =>
        have q1 : fMul (.int m) (.int 69069) = some (.val (.int (m * 69069))) := if_pos (by rw [show sm64 69069 = true from rfl, Bool.or_true])
        have q2 : fAdd (.int (m * 69069)) (.int a) = some (.val (.int (m * 69069 + a))) := rfl
        have q3 : fAdd (.int (m * 69069 + a)) (.int 11) = some (.val (.int (m * 69069 + a + 11))) := rfl
        have q4 : fMod (.int (m * 69069 + a + 11)) (.int 4294967291) = some (.val (.int ((m * 69069 + a + 11) % 4294967291))) := rfl
        refine ⟨potE ns (some (.val (.int a))) (some (.val (.list y))) (some (.val (.int m))), potE ns (some (.val (.int a))) (some (.val (.list y))) (some (.val (.int ((m * 69069 + a + 11) % 4294967291)))), rfl, ?_, _, _, rfl, .inr ⟨_, rfl⟩⟩
        unfold b_law_pot_2
        apply y_end
        · repeat' (first | (with_reducible assumption) | (with_reducible exact x_dat) | (with_reducible exact x_nil) | (with_reducible exact y_skip) | (with_reducible exact x_retB) | (with_reducible refine x_val ?_; rfl) | (with_reducible refine x_own ?_; rfl) | (with_reducible refine x_io ?_; rfl) | (with_reducible apply x_cons) | (with_reducible apply z_T) | (with_reducible apply z_F) | (with_reducible apply y_seq) | (with_reducible apply y_set) | (with_reducible apply y_expr) | (with_reducible apply y_ret) | (with_reducible apply y_if) | (with_reducible apply x_if) | (with_reducible apply x_and) | (with_reducible apply x_or) | (with_reducible apply x_not) | (with_reducible apply x_test) | (with_reducible apply x_op2) | (with_reducible apply x_op1) | (with_reducible apply x_callB) | (with_reducible apply x_tup) | (with_reducible apply x_lst) | (with_reducible apply x_met) | (with_reducible apply x_call) | (with_reducible apply y_par2) | (with_reducible apply y_par3) | (with_reducible apply y_unp) | (with_reducible apply y_for) | (with_reducible apply x_rng1) | (with_reducible apply x_rng2) | (with_reducible apply x_seq) | (with_reducible apply x_enum) | (with_reducible apply x_still) | (with_reducible apply x_rgL1) | (with_reducible exact q1) | (with_reducible exact q2) | (with_reducible exact q3) | (with_reducible exact q4) | (with_reducible exact decide_eq_true (by omega)) | (with_reducible exact decide_eq_false (by omega)) | (with_reducible exact f_append (by omega)) | (with_reducible exact small_le (by omega)) | (with_reducible exact f_rng1 (big_of (by omega) (by omega))) | (exact ⟨.inl rfl, rfl⟩) | (exact (rfl : (_ : Bool) = true)) | (exact (rfl : (_ : Bool) = false)) | (rfl))
        · rfl
      | _ => cases hd)
  exact ⟨x1', m', h2, h1⟩
theorem pow12 : fPow (.int 10) (.int 12) = some (.val (.int 1000000000000)) := by
  show (if (0 : Int) ≤ 12 ∧ (12 : Int) ≤ 1000000 ∧ (10 : Int).natAbs < 2 ^ 64 then some (Tv.val (PyData.int ((10 : Int) ^ (12 : Int).toNat))) else none) = _
  rw [if_pos (by decide), show (10 : Int) ^ (12 : Int).toNat = 1000000000000 by decide]
theorem pot_big (ns : List Int) (x1 x3 : Option Tv) (cs : List Int) (hc : cs.length ≤ 100) (h1 : x1 = none ∨ ∃ d, x1 = some (.val d)) :
    ∃ bs : List Int, l_law_pot_3 (potE ns x1 (some (.val (.list (cs.map PyData.int)))) x3) = .ok (.tmp (.own (.lst (bs.map PyData.int)))) (potE ns x1 (some (.val (.list (cs.map PyData.int)))) x3) ∧ bs.length ≤ cs.length := by
  obtain ⟨acc, e', g1, y1, bs, rfl, rfl, g2⟩ := itL_eq (g := gN 1) (t := mTest (mOp2 fGt (mVar 1) (mOp2 fPow (mDat (.int 10)) (mDat (.int 12))))) (m := mVar 1) (vs := [1]) (all := cs.map PyData.int)
    (fun i acc e => ∃ y1, ∃ bs : List Int, e = potE ns y1 (some (.val (.list (cs.map PyData.int)))) x3 ∧ acc = bs.map PyData.int ∧ bs.length ≤ i)
    (cs.map PyData.int) [] (potE ns x1 (some (.val (.list (cs.map PyData.int)))) x3) 0 ⟨x1, [], rfl, rfl, Nat.le_refl _⟩ (by
      rintro i d acc e hi ⟨y1, bs, rfl, rfl, h2⟩
      rw [Nat.zero_add] at h2 ⊢
      have hlt : i < cs.length := by simpa using (List.getElem?_eq_some_iff.mp hi).1
      obtain ⟨a, _, rfl⟩ := List.mem_map.mp (List.mem_of_getElem? hi)
      have q1 : fPow (.int 10) (.int 12) = some (.val (.int 1000000000000)) := pow12
      have q2 := fGtI a 1000000000000
      refine ⟨potE ns (some (.val (.int a))) (some (.val (.list (cs.map PyData.int)))) x3, rfl, ?_⟩
      by_cases z : a > 1000000000000
      · rw [decide_eq_true z] at q2
        refine .inr ⟨potE ns (some (.val (.int a))) (some (.val (.list (cs.map PyData.int)))) x3, .tmp (.val (.int a)), potE ns (some (.val (.int a))) (some (.val (.list (cs.map PyData.int)))) x3, .int a, potE ns (some (.val (.int a))) (some (.val (.list (cs.map PyData.int)))) x3, ?_, x_val rfl, rfl, by rw [List.length_map]; omega, _, bs ++ [a], rfl, by rw [List.map_append]; rfl, by rw [List.length_append, List.length_singleton]; omega⟩
        repeat' (first | (with_reducible assumption) | (with_reducible exact x_dat) | (with_reducible exact x_nil) | (with_reducible exact y_skip) | (with_reducible exact x_retB) | (with_reducible refine x_val ?_; rfl) | (with_reducible refine x_own ?_; rfl) | (with_reducible refine x_io ?_; rfl) | (with_reducible apply x_cons) | (with_reducible apply z_T) | (with_reducible apply z_F) | (with_reducible apply y_seq) | (with_reducible apply y_set) | (with_reducible apply y_expr) | (with_reducible apply y_ret) | (with_reducible apply y_if) | (with_reducible apply x_if) | (with_reducible apply x_and) | (with_reducible apply x_or) | (with_reducible apply x_not) | (with_reducible apply x_test) | (with_reducible apply x_op2) | (with_reducible apply x_op1) | (with_reducible apply x_callB) | (with_reducible apply x_tup) | (with_reducible apply x_lst) | (with_reducible apply x_met) | (with_reducible apply x_call) | (with_reducible apply y_par2) | (with_reducible apply y_par3) | (with_reducible apply y_unp) | (with_reducible apply y_for) | (with_reducible apply x_rng1) | (with_reducible apply x_rng2) | (with_reducible apply x_seq) | (with_reducible apply x_enum) | (with_reducible apply x_still) | (with_reducible apply x_rgL1) | (with_reducible exact q1) | (with_reducible exact q2) | (with_reducible exact decide_eq_true (by omega)) | (with_reducible exact decide_eq_false (by omega)) | (with_reducible exact f_append (by omega)) | (with_reducible exact small_le (by omega)) | (with_reducible exact f_rng1 (big_of (by omega) (by omega))) | (exact ⟨.inl rfl, rfl⟩) | (exact (rfl : (_ : Bool) = true)) | (exact (rfl : (_ : Bool) = false)) | (rfl))
      · rw [decide_eq_false z] at q2
        refine .inl ⟨potE ns (some (.val (.int a))) (some (.val (.list (cs.map PyData.int)))) x3, ?_, _, bs, rfl, rfl, by omega⟩
        repeat' (first | (with_reducible assumption) | (with_reducible exact x_dat) | (with_reducible exact x_nil) | (with_reducible exact y_skip) | (with_reducible exact x_retB) | (with_reducible refine x_val ?_; rfl) | (with_reducible refine x_own ?_; rfl) | (with_reducible refine x_io ?_; rfl) | (with_reducible apply x_cons) | (with_reducible apply z_T) | (with_reducible apply z_F) | (with_reducible apply y_seq) | (with_reducible apply y_set) | (with_reducible apply y_expr) | (with_reducible apply y_ret) | (with_reducible apply y_if) | (with_reducible apply x_if) | (with_reducible apply x_and) | (with_reducible apply x_or) | (with_reducible apply x_not) | (with_reducible apply x_test) | (with_reducible apply x_op2) | (with_reducible apply x_op1) | (with_reducible apply x_callB) | (with_reducible apply x_tup) | (with_reducible apply x_lst) | (with_reducible apply x_met) | (with_reducible apply x_call) | (with_reducible apply y_par2) | (with_reducible apply y_par3) | (with_reducible apply y_unp) | (with_reducible apply y_for) | (with_reducible apply x_rng1) | (with_reducible apply x_rng2) | (with_reducible apply x_seq) | (with_reducible apply x_enum) | (with_reducible apply x_still) | (with_reducible apply x_rgL1) | (with_reducible exact q1) | (with_reducible exact q2) | (with_reducible exact decide_eq_true (by omega)) | (with_reducible exact decide_eq_false (by omega)) | (with_reducible exact f_append (by omega)) | (with_reducible exact small_le (by omega)) | (with_reducible exact f_rng1 (big_of (by omega) (by omega))) | (exact ⟨.inl rfl, rfl⟩) | (exact (rfl : (_ : Bool) = true)) | (exact (rfl : (_ : Bool) = false)) | (rfl)))
  rw [Nat.zero_add, List.length_map] at g2
  refine ⟨bs, ?_, g2⟩
  have hpl : ([1].all fun v => VL.plain (potE ns x1 (some (.val (.list (cs.map PyData.int)))) x3) v) = true := by
    rcases h1 with rfl | ⟨d, rfl⟩ <;> rfl
  exact x_lc (mi := still (iSeq (mVar 2))) (ds := cs.map PyData.int) (e1 := potE ns x1 (some (.val (.list (cs.map PyData.int)))) x3) (x_still (x_seq (x_val rfl) rfl rfl)) hpl g1
theorem x_potNew {ms : M (List R)} {e e1 : En} {ds : List Dt} {cs : List Int} {m t : Int} (h : ms e = .ok [.tmp (.own (.lst ds)), .tmp (.val (.int m)), .tmp (.val (.int t))] e1) (hc : asInts ds = some cs) : mPotNew ms e = .ok (.tmp (.own (.pot cs m t))) e1 :=
  x_bind h (by simp only; rw [hc]; rfl)
theorem pot_ok (ns : List Int) (hn : ns.length ≤ 63) : ∃ cs m, f_law_pot [.io (.scr ns)] = .ok (.own (.pot cs m 0)) (some (.scr ns)) ∧ cs.length ≤ 63 := by
  obtain ⟨cs, h1, h2⟩ := pot_cells ns (by omega)
  have hi : ∀ d ∈ cs.map PyData.int, intLike d = true := fun d hd => by
    obtain ⟨a, _, rfl⟩ := List.mem_map.mp hd
    rfl
  have q1 : fMul (.int 37) (.int (ns.length : Int)) = some (.val (.int (37 * (ns.length : Int)))) := rfl
  have q2 : fAdd (.int 15910) (.int (37 * (ns.length : Int))) = some (.val (.int (15910 + 37 * (ns.length : Int)))) := rfl
  obtain ⟨x1, m, hx1, h3⟩ := pot_mix ns (cs.map PyData.int) hi none (15910 + 37 * (ns.length : Int)) (cs.map PyData.int)
  obtain ⟨bs, h4, h5⟩ := pot_big ns x1 (some (.val (.int m))) cs (by omega) (by rcases hx1 with rfl | z; exact .inl rfl; exact .inr z)
  refine ⟨bs, m, ?_, by omega⟩
  unfold f_law_pot
  refine fn_rt (m := m_law_pot) (n := 4) (np := 1) (r := .tmp (.own (.pot bs m 0))) (e := potE ns x1 (some (.val (.list (cs.map PyData.int)))) (some (.val (.int m)))) rfl ?_ rfl rfl
  unfold m_law_pot
  refine y_seq (e1 := potE ns none (some (.own (.lst (cs.map PyData.int)))) (some (.val (.int (15910 + 37 * (ns.length : Int)))))) ?_ (y_seq (e1 := potE ns x1 (some (.val (.list (cs.map PyData.int)))) (some (.val (.int m)))) (y_for (x_seq (x_own rfl) rfl rfl) h3) (y_ret (x_potNew (x_cons h4 (x_cons (x_val rfl) (x_cons x_dat x_nil))) (asInts_map bs))))
  apply y_end
  · repeat' (first | (with_reducible assumption) | (with_reducible exact x_dat) | (with_reducible exact x_nil) | (with_reducible exact y_skip) | (with_reducible exact x_retB) | (with_reducible refine x_val ?_; rfl) | (with_reducible refine x_own ?_; rfl) | (with_reducible refine x_io ?_; rfl) | (with_reducible apply x_cons) | (with_reducible apply z_T) | (with_reducible apply z_F) | (with_reducible apply y_seq) | (with_reducible apply y_set) | (with_reducible apply y_expr) | (with_reducible apply y_ret) | (with_reducible apply y_if) | (with_reducible apply x_if) | (with_reducible apply x_and) | (with_reducible apply x_or) | (with_reducible apply x_not) | (with_reducible apply x_test) | (with_reducible apply x_op2) | (with_reducible apply x_op1) | (with_reducible apply x_callB) | (with_reducible apply x_tup) | (with_reducible apply x_lst) | (with_reducible apply x_met) | (with_reducible apply x_call) | (with_reducible apply y_par2) | (with_reducible apply y_par3) | (with_reducible apply y_unp) | (with_reducible apply y_for) | (with_reducible apply x_rng1) | (with_reducible apply x_rng2) | (with_reducible apply x_seq) | (with_reducible apply x_enum) | (with_reducible apply x_still) | (with_reducible apply x_rgL1) | ((with_reducible show l_law_pot_1 _ = _); exact h1) | ((with_reducible show mScrLen 0 _ = _); exact (rfl : mScrLen 0 (potE ns none none none) = .ok (.tmp (.val (.int (ns.length : Int)))) (potE ns none none none))) | (with_reducible exact q1) | (with_reducible exact q2) | (with_reducible exact decide_eq_true (by omega)) | (with_reducible exact decide_eq_false (by omega)) | (with_reducible exact f_append (by omega)) | (with_reducible exact small_le (by omega)) | (with_reducible exact f_rng1 (big_of (by omega) (by omega))) | (exact ⟨.inl rfl, rfl⟩) | (exact (rfl : (_ : Bool) = true)) | (exact (rfl : (_ : Bool) = false)) | (rfl))
  · rfl
end KD


namespace KD
open PySem PySem.Spec L2 VL
open PyProof.Rows hiding St
/-! ### sizes -/
theorem box_wd {d : Dt} (h : isWord d) : Box 8 0 d := by
  rcases h with rfl | rfl | rfl | rfl
  · exact box_word w_dash
  · exact box_word w_even
  · exact box_word w_stand
  · exact box_word w_bow
theorem box_door {n : Nat} {d : Dt} (hn : n ≤ 5) (h : doorLike n d) : Box 400 3 d := by
  obtain ⟨rows, orders, rfl, h1, h2, h3⟩ := h
  have hr : BoxL (5 * 47) 1 (rows.map PyData.tuple) := by
    refine (BoxL.all (n := 46) (k := 1) fun x hx => ?_).mono (by rw [List.length_map, h1.1]; exact Nat.mul_le_mul_right _ hn) (Nat.le_refl _)
    obtain ⟨row, hrow, rfl⟩ := List.mem_map.mp hx
    obtain ⟨hl, hw⟩ := h1.2 row hrow
    exact ((BoxL.all (n := 8) (k := 0) fun y hy => box_wd (hw y hy)).tup).mono (by rw [hl]; omega) (Nat.le_refl _)
  have ho : BoxL (5 * 7) 1 orders := by
    refine (BoxL.all (n := 6) (k := 1) fun x hx => ?_).mono (by rw [h2]; exact Nat.mul_le_mul_right _ hn) (Nat.le_refl _)
    obtain ⟨i, hi⟩ := List.mem_iff_getElem?.mp hx
    obtain ⟨es, rfl, hp⟩ := h3 i x hi
    have hl := others_len n i
    have hl2 := hp.length_eq
    refine ((BoxL.all (n := 0) (k := 0) fun y hy => ?_).tup).mono (by omega) (Nat.le_refl _)
    have hy2 := hp.subset hy
    unfold others at hy2
    obtain ⟨j, hj, rfl⟩ := List.mem_map.mp hy2
    have := List.mem_range.mp (List.mem_filter.mp hj).1
    exact box_int (by omega) (by omega)
  exact ((BoxL.cons hr.tup (BoxL.cons ho.tup (BoxL.nil (k := 2)))).tup).mono (by omega) (Nat.le_refl _)
theorem box_room {n : Nat} {d : Dt} (hn : n ≤ 5) (h : roomLike n d) : Box 400 3 d := by
  rcases h with rfl | h
  · exact box_none.mono (by omega) (by omega)
  · exact box_door hn h
theorem box_step {r : Nat} {x : Dt} (hr : r ≤ 6) (h : stepLike (rgs 0 r) x) : Box 12 1 x := by
  obtain ⟨y, hy, h⟩ := h
  obtain ⟨i, hi, rfl⟩ := rgs_mem hy
  have hb : Box 0 0 (.int (0 + (i : Int))) := box_int (by omega) (by omega)
  rcases h with rfl | rfl
  · exact ((BoxL.cons (box_word w_in) (BoxL.cons hb (BoxL.nil (k := 0)))).tup).mono (by omega) (Nat.le_refl _)
  · exact ((BoxL.cons (box_word w_out) (BoxL.cons hb (BoxL.nil (k := 0)))).tup).mono (by omega) (Nat.le_refl _)
theorem box_way {r : Nat} {w : Dt} (hr : r ≤ 6) (h : wayLike r 25 w) : Box 400 2 w := by
  obtain ⟨ts, rfl, h1, h2⟩ := h
  exact ((BoxL.all (n := 12) (k := 1) fun x hx => box_step hr (h1 x hx)).tup).mono (by omega) (Nat.le_refl _)
theorem box_gOne {r n i : Nat} {w : Dt} {hs : List Dt} (hr : r ≤ 6) (hn : n ≤ 6) (h : wayLike r 25 w) : Box 400 2 (gOne n hs i w) := by
  have hw := box_way hr h
  obtain ⟨ts, rfl, h1, h2⟩ := h
  unfold gOne
  split
  · have hb : Box 0 0 (.int (n : Int)) := box_int (by omega) (by omega)
    have a : Box 12 1 (.tuple [.str ("in" : Str), .int (n : Int)]) := ((BoxL.cons (box_word w_in) (BoxL.cons hb (BoxL.nil (k := 0)))).tup).mono (by omega) (Nat.le_refl _)
    have b : Box 12 1 (.tuple [.str ("out" : Str), .int (n : Int)]) := ((BoxL.cons (box_word w_out) (BoxL.cons hb (BoxL.nil (k := 0)))).tup).mono (by omega) (Nat.le_refl _)
    exact ((((BoxL.cons a BoxL.nil).app (BoxL.all (n := 12) (k := 1) fun x hx => box_step hr (h1 x hx))).app (BoxL.cons b BoxL.nil)).tup).mono (by omega) (Nat.le_refl _)
  · exact hw
/-! ### what a turn draws -/
structure Drawn (h r : Nat) (fs ws hs : List Dt) : Prop where
  h1 : 1 ≤ h
  h5 : h ≤ 5
  r1 : 1 ≤ r
  r6 : r ≤ 6
  fl : fs.length = r
  fr : ∀ f ∈ fs, roomLike h f
  wl : ws.length = h
  ww : ∀ w ∈ ws, wayLike r 25 w
  hh : ∀ d ∈ hs, ∃ i : Nat, d = .int (i : Int) ∧ i < h
  hl : hs.length ≤ h
theorem Drawn.hands {h r : Nat} {fs ws hs : List Dt} (D : Drawn h r fs ws hs) : Hands ws.length hs := ⟨by rw [D.wl]; exact D.hh, by have := D.hl; have := D.h5; omega⟩
theorem Drawn.ways {h r : Nat} {fs ws hs : List Dt} (D : Drawn h r fs ws hs) : Ways ws := ⟨fun w hw => by
  obtain ⟨ts, h1, _, h3⟩ := D.ww w hw
  exact ⟨ts, h1, by omega⟩, by rw [D.wl]; have := D.h5; omega⟩
theorem box_house {h r : Nat} {fs ws hs : List Dt} (D : Drawn h r fs ws hs) : Box 6000 6 (.tuple [.tuple fs, .tuple ws]) := by
  have h5 := D.h5
  have r6 := D.r6
  have a : BoxL (6 * 401) 3 fs := (BoxL.all (n := 400) (k := 3) fun x hx => box_room D.h5 (D.fr x hx)).mono (by rw [D.fl]; exact Nat.mul_le_mul_right _ r6) (Nat.le_refl _)
  have b : BoxL (5 * 401) 3 ws := (BoxL.all (n := 400) (k := 3) fun x hx => (box_way D.r6 (D.ww x hx)).mono (Nat.le_refl _) (by omega)).mono (by rw [D.wl]; exact Nat.mul_le_mul_right _ h5) (Nat.le_refl _)
  exact ((BoxL.cons a.tup (BoxL.cons b.tup (BoxL.nil (k := 4)))).tup).mono (by omega) (by omega)
theorem box_hands {h r : Nat} {fs ws hs : List Dt} (D : Drawn h r fs ws hs) : Box 6000 6 (.tuple hs) := by
  have h5 := D.h5
  have hl := D.hl
  refine ((BoxL.all (n := 0) (k := 0) fun x hx => ?_).tup).mono (by omega) (by omega)
  obtain ⟨i, rfl, hi⟩ := D.hh x hx
  exact box_int (by omega) (by omega)
theorem box_same {h r : Nat} {fs ws hs : List Dt} (D : Drawn h r fs ws hs) : Box 13000 7 (.list [.tuple [.tuple fs, .tuple ws], .tuple hs]) :=
  ((BoxL.cons (box_house D) (BoxL.cons (box_hands D) (BoxL.nil (k := 6)))).list).mono (by omega) (by omega)
def told (fs hs ws : List Dt) : Dt := .tuple [.tuple (fs ++ [.none]), .tuple (gAll fs.length hs ws)]
def unfitD : List Dt := [.str ("unfit" : Str), .bool true, .bool false]
def dueD (fs hs ws : List Dt) : List Dt := if fs.length = 6 ∨ hs.filter (longW ws) ≠ [] then unfitD else [.str ("told" : Str), told fs hs ws]
theorem box_told {h r : Nat} {fs ws hs : List Dt} (D : Drawn h r fs ws hs) : Box 6000 6 (told fs hs ws) := by
  have h5 := D.h5
  have r6 := D.r6
  have a : BoxL (6 * 401 + (0 + 1 + 0)) 3 (fs ++ [.none]) := ((BoxL.all (n := 400) (k := 3) fun x hx => box_room D.h5 (D.fr x hx)).mono (by rw [D.fl]; exact Nat.mul_le_mul_right _ r6) (Nat.le_refl _)).app (BoxL.cons (box_none.mono (Nat.le_refl _) (by omega)) BoxL.nil)
  have b : BoxL (5 * 401) 3 (gAll fs.length hs ws) := (BoxL.all (n := 400) (k := 3) fun x hx => by
    unfold gAll at hx
    obtain ⟨i, hi, rfl⟩ := List.mem_map.mp hx
    have hlt := List.mem_range.mp hi
    have hg : ws.getD i .none = ws[i] := by rw [List.getD_eq_getElem?_getD, List.getElem?_eq_getElem hlt]; rfl
    rw [hg]
    exact (box_gOne D.r6 (by rw [D.fl]; exact r6) (D.ww _ (List.getElem_mem hlt))).mono (Nat.le_refl _) (by omega)).mono (by rw [gAll_len, D.wl]; exact Nat.mul_le_mul_right _ h5) (Nat.le_refl _)
  exact ((BoxL.cons a.tup (BoxL.cons b.tup (BoxL.nil (k := 4)))).tup).mono (by omega) (by omega)
theorem box_due {h r : Nat} {fs ws hs : List Dt} (D : Drawn h r fs ws hs) : Box 13000 7 (.list (dueD fs hs ws)) := by
  unfold dueD
  split
  · exact ((BoxL.cons (box_word w_unfit) (BoxL.cons box_bool (BoxL.cons box_bool BoxL.nil))).list).mono (by omega) (by omega)
  · exact ((BoxL.cons ((box_word w_told).mono (Nat.le_refl _) (Nat.zero_le 6)) (BoxL.cons (box_told D) BoxL.nil)).list).mono (by omega) (by omega)
theorem strNe {x : Str} (h : PyData.strOk x = true) : fNe (.str x) (.str x) = some (.val (.bool false)) := by
  have hs : SeqAt.shaped (.str x) = true := by
    unfold SeqAt.shaped
    simp [PyData.canLay0, h, PyData.depth]
  show (if _ then _ else _) = _
  rw [hs]
  simp [PyData.eqv]
/-! ### gated is heard -/
section
variable {e e1 e2 : En} {r : R} {d : Dt} {m : M R} {ms : M (List R)} {rs rs' : List R} {args : List Tv} {t : Tv} {os : Option Ob}
theorem x_heard (h : m e = .ok r e1) (hz : fz e1 r = some (d, e2)) : mHeard m e = .ok (.tmp (.own (.lst [.str ("told" : Str), d]))) e2 := by
  unfold mHeard
  rw [h]
  simp only
  rw [hz]
theorem x_heardU (h : m e = .er ⟨("Unfit" : Str), none⟩ e1) : mHeard m e = .ok (.tmp (.own (.lst unfitD))) e1 := by
  unfold mHeard
  rw [h]
  exact if_pos rfl
theorem x_app {F : Fn} {io : Option Nat} (ha : argsOf io e1 0 rs' = some args) (hn : ((looked io 0 rs').all fun i => !decide (ioSlot io rs' = some i)) = true) (hF : F args = .ok t os)
    (hc : (looked io 0 rs' = [] ∨ (noMt t = true ∧ noMos os = true)) ∧ notIo t = true) (ho : putO e1 (ioSlot io rs') os = some e2) : appF F io rs' e1 = .ok (.tmp t) e2 := by
  unfold appF
  rw [ha]
  simp only
  rw [if_pos hn, hF]
  simp only
  rw [if_pos hc, ho]
theorem x_appE {F : Fn} {io : Option Nat} {x : Ex} (ha : argsOf io e1 0 rs' = some args) (hn : ((looked io 0 rs').all fun i => !decide (ioSlot io rs' = some i)) = true) (hF : F args = .er x os)
    (hc : looked io 0 rs' = [] ∨ noMos os = true) (ho : putO e1 (ioSlot io rs') os = some e2) : appF F io rs' e1 = .er x e2 := by
  unfold appF
  rw [ha]
  simp only
  rw [if_pos hn, hF]
  simp only
  rw [if_pos hc, ho]
end
theorem heard_ok {h r : Nat} {fs ws hs : List Dt} (D : Drawn h r fs ws hs) {e : En} {i j : Nat} (h1 : e[i]? = some (some (.val (.tuple [.tuple fs, .tuple ws])))) (h2 : e[j]? = some (some (.val (.tuple hs)))) :
    mHeard (mCall fgated none true (mCons (mVar i) (mCons (mVar j) (M.ret [])))) e = .ok (.tmp (.own (.lst (dueD fs hs ws)))) e := by
  have r6 := D.r6
  have fl := D.fl
  unfold dueD
  by_cases z : fs.length = 6 ∨ hs.filter (longW ws) ≠ []
  · rw [if_pos z]
    exact x_heardU (x_callE (x_cons (x_val h1) (x_cons (x_val h2) x_nil)) rfl rfl rfl (gated_er hs fs ws D.hands D.ways z) (.inl rfl) rfl)
  · rw [if_neg z]
    exact x_heard (x_call (x_cons (x_val h1) (x_cons (x_val h2) x_nil)) rfl rfl rfl (gated_ok hs fs ws D.hands D.ways (by omega) (fun q => z (.inl q)) (by simpa using fun q => z (.inr q))) ⟨.inl rfl, rfl⟩ rfl) rfl
theorem heardK_ok {h r : Nat} {fs ws hs : List Dt} (D : Drawn h r fs ws hs) {e : En} {i j : Nat} (h1 : e[i]? = some (some (.val (.tuple [.tuple fs, .tuple ws])))) (h2 : e[j]? = some (some (.val (.tuple hs)))) :
    mHeard (mCallK fgated true [1, 0] (mCons (mVar j) (mCons (mVar i) (M.ret [])))) e = .ok (.tmp (.own (.lst (dueD fs hs ws)))) e := by
  have r6 := D.r6
  have fl := D.fl
  unfold dueD
  by_cases z : fs.length = 6 ∨ hs.filter (longW ws) ≠ []
  · rw [if_pos z]
    refine x_heardU (e1 := e) (x_bind (x_cons (x_val h2) (x_cons (x_val h1) x_nil)) (x_bind (show passL none true 0 _ e = .ok [.tmp (.val (.tuple hs)), .tmp (.val (.tuple [.tuple fs, .tuple ws]))] e from rfl) ?_))
    rw [if_pos ⟨rfl, rfl⟩]
    exact x_appE (rs' := [.tmp (.val (.tuple [.tuple fs, .tuple ws])), .tmp (.val (.tuple hs))]) rfl rfl (gated_er hs fs ws D.hands D.ways z) (.inl rfl) rfl
  · rw [if_neg z]
    have g := gated_ok hs fs ws D.hands D.ways (by omega) (fun q => z (.inl q)) (by simpa using fun q => z (.inr q))
    refine x_heard (e1 := e) (r := .tmp (.val (told fs hs ws))) (x_bind (x_cons (x_val h2) (x_cons (x_val h1) x_nil)) (x_bind (show passL none true 0 _ e = .ok [.tmp (.val (.tuple hs)), .tmp (.val (.tuple [.tuple fs, .tuple ws]))] e from rfl) ?_)) rfl
    rw [if_pos ⟨rfl, rfl⟩]
    exact x_app (rs' := [.tmp (.val (.tuple [.tuple fs, .tuple ws])), .tmp (.val (.tuple hs))]) rfl rfl g ⟨.inl rfl, rfl⟩ rfl
end KD


namespace KD
open PySem PySem.Spec L2 VL
open PyProof.Rows hiding St
abbrev lawE (ns : List Int) (pot : Ob) (x2 x3 x4 x5 x6 x7 x8 x9 x10 x11 x12 x13 x14 : Option Tv) : En := [some (.io (.scr ns)), some (.own pot), x2, x3, x4, x5, x6, x7, x8, x9, x10, x11, x12, x13, x14]
abbrev iN (n : Nat) : Option Tv := some (.val (.int (n : Int)))
def Pl (x : Option Tv) : Prop := x = none ∨ ∃ d, x = some (.val d)
section
variable (ns : List Int) (x2 x3 x4 x5 x6 x7 x8 x9 x10 x11 x12 x13 x14 : Option Tv)
theorem law_sizes (cs : List Int) (m t : Int) (h : Nat) (hh : h ≤ 900) (hc : cs.length ≤ 63) (hp : Pl x13) :
    ∃ cs' m' t' acc, llaw_1 (lawE ns (.pot cs m t) x2 (iN h) x4 x5 x6 x7 x8 x9 x10 x11 x12 x13 x14) = .ok (.tmp (.own (.lst acc))) (lawE ns (.pot cs' m' t') x2 (iN h) x4 x5 x6 x7 x8 x9 x10 x11 x12 x13 x14) ∧ cs'.length ≤ 63 ∧ acc.length = h ∧ ∀ d ∈ acc, ∃ n : Nat, d = .int (n : Int) ∧ n ≤ 24 := by
  obtain ⟨acc, e', h1, cs', m', t', y13, rfl, h2, h3, h4⟩ := itL_eq (g := gN 13) (t := M.ret true) (m := mCall f_law_one (some 0) true (mCons (mVar 1) (mCons (mLst (mCons (mDat (.int 2)) (mCons (mDat (.int 20)) (mCons (mDat (.int 22)) (mCons (mDat (.int 22)) (mCons (mDat (.int 24)) (M.ret []))))))) (M.ret [])))) (vs := [13]) (all := rgs 0 h)
    (fun i acc e => ∃ cs m t y13, e = lawE ns (.pot cs m t) x2 (iN h) x4 x5 x6 x7 x8 x9 x10 x11 x12 y13 x14 ∧ cs.length ≤ 63 ∧ acc.length = i ∧ ∀ d ∈ acc, ∃ n : Nat, d = .int (n : Int) ∧ n ≤ 24)
    (rgs 0 h) [] (lawE ns (.pot cs m t) x2 (iN h) x4 x5 x6 x7 x8 x9 x10 x11 x12 x13 x14) 0 ⟨cs, m, t, x13, rfl, hc, rfl, fun d hd => nomatch hd⟩ (by
      rintro i d acc e hi ⟨cs, m, t, y13, rfl, h1, h2, h3⟩
      rw [Nat.zero_add] at h2 ⊢
      obtain ⟨rfl, hlt⟩ := rgs_at hi
      obtain ⟨d, cs1, m1, t1, g1, g2, g3⟩ := one_ok cs m t [.int 2, .int 20, .int 22, .int 22, .int 24] h1 (List.cons_ne_nil _ _) (by simp)
      refine ⟨lawE ns (.pot cs m t) x2 (iN h) x4 x5 x6 x7 x8 x9 x10 x11 x12 (iN i) x14, rfl, .inr ⟨lawE ns (.pot cs m t) x2 (iN h) x4 x5 x6 x7 x8 x9 x10 x11 x12 (iN i) x14, .tmp (.val d), lawE ns (.pot cs1 m1 t1) x2 (iN h) x4 x5 x6 x7 x8 x9 x10 x11 x12 (iN i) x14, d, lawE ns (.pot cs1 m1 t1) x2 (iN h) x4 x5 x6 x7 x8 x9 x10 x11 x12 (iN i) x14, rfl, ?_, rfl, by omega, cs1, m1, t1, _, rfl, g2, by rw [List.length_append, List.length_singleton]; omega, fun y hy => ?_⟩⟩
      · apply x_end
        · repeat' (first | (with_reducible assumption) | (with_reducible exact x_dat) | (with_reducible exact x_nil) | (with_reducible exact y_skip) | (with_reducible exact x_retB) | (with_reducible refine x_val ?_; rfl) | (with_reducible refine x_own ?_; rfl) | (with_reducible refine x_io ?_; rfl) | (with_reducible apply x_cons) | (with_reducible apply z_T) | (with_reducible apply z_F) | (with_reducible apply y_seq) | (with_reducible apply y_set) | (with_reducible apply y_expr) | (with_reducible apply y_ret) | (with_reducible apply y_if) | (with_reducible apply x_if) | (with_reducible apply x_and) | (with_reducible apply x_or) | (with_reducible apply x_not) | (with_reducible apply x_test) | (with_reducible apply x_op2) | (with_reducible apply x_op1) | (with_reducible apply x_callB) | (with_reducible apply x_tup) | (with_reducible apply x_lst) | (with_reducible apply x_met) | (with_reducible apply x_call) | (with_reducible apply y_par2) | (with_reducible apply y_par3) | (with_reducible apply y_unp) | (with_reducible apply y_for) | (with_reducible apply x_rng1) | (with_reducible apply x_rng2) | (with_reducible apply x_seq) | (with_reducible apply x_enum) | (with_reducible apply x_still) | (with_reducible apply x_rgL1) | (with_reducible exact g1) | (with_reducible exact decide_eq_true (by omega)) | (with_reducible exact decide_eq_false (by omega)) | (with_reducible exact f_append (by omega)) | (with_reducible exact small_le (by omega)) | (with_reducible exact f_rng1 (big_of (by omega) (by omega))) | (exact ⟨.inl rfl, rfl⟩) | (exact (rfl : (_ : Bool) = true)) | (exact (rfl : (_ : Bool) = false)) | (rfl))
        · rfl
        · rfl
      · rcases List.mem_append.mp hy with q | q
        · exact h3 y q
        · rw [List.mem_singleton.mp q]
          simp only [List.mem_cons, List.not_mem_nil, or_false] at g3
          rcases g3 with rfl | rfl | rfl | rfl | rfl
          · exact ⟨2, rfl, by omega⟩
          · exact ⟨20, rfl, by omega⟩
          · exact ⟨22, rfl, by omega⟩
          · exact ⟨22, rfl, by omega⟩
          · exact ⟨24, rfl, by omega⟩)
  rw [Nat.zero_add, rgs_len] at h3
  refine ⟨cs', m', t', acc, ?_, h2, h3, h4⟩
  have hpl : ([13].all fun v => VL.plain (lawE ns (.pot cs m t) x2 (iN h) x4 x5 x6 x7 x8 x9 x10 x11 x12 x13 x14) v) = true := by
    rcases hp with rfl | ⟨d, rfl⟩ <;> rfl
  exact x_lc (mi := still (iRng1 (mCons (mVar 3) (M.ret [])))) (ds := rgs 0 h) (e1 := lawE ns (.pot cs m t) x2 (iN h) x4 x5 x6 x7 x8 x9 x10 x11 x12 x13 x14) (x_still (x_rng1 (x_cons (x_val rfl) x_nil) rfl (f_rngN (by omega)))) hpl h1
theorem law_ways (cs : List Int) (m t : Int) (r : Nat) (sizes : List Dt) (hr : 1 ≤ r ∧ r ≤ 900) (hs : sizes.length ≤ 900) (hz : ∀ d ∈ sizes, ∃ n : Nat, d = .int (n : Int) ∧ n ≤ 24) (hc : cs.length ≤ 63) (hp : Pl x14) :
    ∃ cs' m' t' acc, llaw_2 (lawE ns (.pot cs m t) x2 x3 (iN r) (some (.own (.lst sizes))) x6 x7 x8 x9 x10 x11 x12 x13 x14) = .ok (.tmp (.own (.lst acc))) (lawE ns (.pot cs' m' t') x2 x3 (iN r) (some (.val (.list sizes))) x6 x7 x8 x9 x10 x11 x12 x13 x14) ∧ cs'.length ≤ 63 ∧ acc.length = sizes.length ∧ ∀ w ∈ acc, wayLike r 25 w := by
  have f1 := f_rgL (n := r) (by omega)
  obtain ⟨acc, e', h1, cs', m', t', y14, rfl, h2, h3, h4⟩ := itL_eq (g := gN 14) (t := M.ret true) (m := mCall f_law_way (some 0) true (mCons (mVar 1) (mCons (mRgL1 (mVar 4)) (mCons (mVar 14) (mCons (mDat (.bool false)) (M.ret [])))))) (vs := [14]) (all := sizes)
    (fun i acc e => ∃ cs m t y14, e = lawE ns (.pot cs m t) x2 x3 (iN r) (some (.val (.list sizes))) x6 x7 x8 x9 x10 x11 x12 x13 y14 ∧ cs.length ≤ 63 ∧ acc.length = i ∧ ∀ w ∈ acc, wayLike r 25 w)
    sizes [] (lawE ns (.pot cs m t) x2 x3 (iN r) (some (.val (.list sizes))) x6 x7 x8 x9 x10 x11 x12 x13 x14) 0 ⟨cs, m, t, x14, rfl, hc, rfl, fun d hd => nomatch hd⟩ (by
      rintro i d acc e hi ⟨cs, m, t, y14, rfl, h1, h2, h3⟩
      rw [Nat.zero_add] at h2 ⊢
      have hlt : i < sizes.length := (List.getElem?_eq_some_iff.mp hi).1
      obtain ⟨n, rfl, hn⟩ := hz d (List.mem_of_getElem? hi)
      obtain ⟨ts, cs1, m1, t1, g1, g2, g3, g4⟩ := way_ok cs m t (rgs 0 r) n false h1 (fun q => by have := congrArg List.length q; rw [rgs_len] at this; simp at this; omega) (fun d hd => rgs_int hd) (by rw [rgs_len]; omega) (by omega)
      refine ⟨lawE ns (.pot cs m t) x2 x3 (iN r) (some (.val (.list sizes))) x6 x7 x8 x9 x10 x11 x12 x13 (iN n), rfl, .inr ⟨lawE ns (.pot cs m t) x2 x3 (iN r) (some (.val (.list sizes))) x6 x7 x8 x9 x10 x11 x12 x13 (iN n), .tmp (.val (.tuple ts)), lawE ns (.pot cs1 m1 t1) x2 x3 (iN r) (some (.val (.list sizes))) x6 x7 x8 x9 x10 x11 x12 x13 (iN n), .tuple ts, lawE ns (.pot cs1 m1 t1) x2 x3 (iN r) (some (.val (.list sizes))) x6 x7 x8 x9 x10 x11 x12 x13 (iN n), rfl, ?_, rfl, by omega, cs1, m1, t1, _, rfl, g2, by rw [List.length_append, List.length_singleton]; omega, fun y hy => ?_⟩⟩
      · apply x_end
        · repeat' (first | (with_reducible assumption) | (with_reducible exact x_dat) | (with_reducible exact x_nil) | (with_reducible exact y_skip) | (with_reducible exact x_retB) | (with_reducible refine x_val ?_; rfl) | (with_reducible refine x_own ?_; rfl) | (with_reducible refine x_io ?_; rfl) | (with_reducible apply x_cons) | (with_reducible apply z_T) | (with_reducible apply z_F) | (with_reducible apply y_seq) | (with_reducible apply y_set) | (with_reducible apply y_expr) | (with_reducible apply y_ret) | (with_reducible apply y_if) | (with_reducible apply x_if) | (with_reducible apply x_and) | (with_reducible apply x_or) | (with_reducible apply x_not) | (with_reducible apply x_test) | (with_reducible apply x_op2) | (with_reducible apply x_op1) | (with_reducible apply x_callB) | (with_reducible apply x_tup) | (with_reducible apply x_lst) | (with_reducible apply x_met) | (with_reducible apply x_call) | (with_reducible apply y_par2) | (with_reducible apply y_par3) | (with_reducible apply y_unp) | (with_reducible apply y_for) | (with_reducible apply x_rng1) | (with_reducible apply x_rng2) | (with_reducible apply x_seq) | (with_reducible apply x_enum) | (with_reducible apply x_still) | (with_reducible apply x_rgL1) | (with_reducible exact f1) | (with_reducible exact g1) | (with_reducible exact decide_eq_true (by omega)) | (with_reducible exact decide_eq_false (by omega)) | (with_reducible exact f_append (by omega)) | (with_reducible exact small_le (by omega)) | (with_reducible exact f_rng1 (big_of (by omega) (by omega))) | (exact ⟨.inl rfl, rfl⟩) | (exact (rfl : (_ : Bool) = true)) | (exact (rfl : (_ : Bool) = false)) | (rfl))
        · rfl
        · rfl
      · rcases List.mem_append.mp hy with q | q
        · exact h3 y q
        · rw [List.mem_singleton.mp q]
          exact ⟨ts, rfl, g3, by omega⟩)
  rw [Nat.zero_add] at h3
  refine ⟨cs', m', t', acc, ?_, h2, h3, h4⟩
  have hpl : ([14].all fun v => VL.plain (lawE ns (.pot cs m t) x2 x3 (iN r) (some (.val (.list sizes))) x6 x7 x8 x9 x10 x11 x12 x13 x14) v) = true := by
    rcases hp with rfl | ⟨d, rfl⟩ <;> rfl
  exact x_lc (mi := still (iSeq (mVar 5))) (ds := sizes) (e1 := lawE ns (.pot cs m t) x2 x3 (iN r) (some (.val (.list sizes))) x6 x7 x8 x9 x10 x11 x12 x13 x14) (x_still (x_seq (x_own rfl) rfl rfl)) hpl h1
theorem law_row (cs : List Int) (m t : Int) (h : Nat) (hh : h ≤ 900) (hc : cs.length ≤ 63) (hp : Pl x13) :
    ∃ cs' m' t' acc, llaw_3 (lawE ns (.pot cs m t) x2 (iN h) x4 x5 x6 x7 x8 x9 x10 x11 x12 x13 x14) = .ok (.tmp (.own (.lst acc))) (lawE ns (.pot cs' m' t') x2 (iN h) x4 x5 x6 x7 x8 x9 x10 x11 x12 x13 x14) ∧ cs'.length ≤ 63 ∧ acc.length ≤ h ∧ ∀ d ∈ acc, ∃ i : Nat, d = .int (i : Int) ∧ i < h := by
  obtain ⟨acc, e', h1, cs', m', t', y13, rfl, h2, h3, h4⟩ := itL_eq (g := gN 13) (t := mTest (mOp2 fEq (mCall f_law_of (some 0) true (mCons (mVar 1) (mCons (mDat (.int 2)) (M.ret [])))) (mDat (.int 0)))) (m := mVar 13) (vs := [13]) (all := rgs 0 h)
    (fun i acc e => ∃ cs m t y13, e = lawE ns (.pot cs m t) x2 (iN h) x4 x5 x6 x7 x8 x9 x10 x11 x12 y13 x14 ∧ cs.length ≤ 63 ∧ acc.length ≤ i ∧ ∀ d ∈ acc, ∃ i : Nat, d = .int (i : Int) ∧ i < h)
    (rgs 0 h) [] (lawE ns (.pot cs m t) x2 (iN h) x4 x5 x6 x7 x8 x9 x10 x11 x12 x13 x14) 0 ⟨cs, m, t, x13, rfl, hc, Nat.le_refl _, fun d hd => nomatch hd⟩ (by
      rintro i d acc e hi ⟨cs, m, t, y13, rfl, h1, h2, h3⟩
      rw [Nat.zero_add] at h2 ⊢
      obtain ⟨rfl, hlt⟩ := rgs_at hi
      obtain ⟨a, cs1, m1, t1, g1, g2, g3, g4⟩ := of_ok cs m t 2 h1 (by omega)
      have g5 := feqI a 0
      refine ⟨lawE ns (.pot cs m t) x2 (iN h) x4 x5 x6 x7 x8 x9 x10 x11 x12 (iN i) x14, rfl, ?_⟩
      by_cases z : a = 0
      · rw [decide_eq_true z] at g5
        refine .inr ⟨lawE ns (.pot cs1 m1 t1) x2 (iN h) x4 x5 x6 x7 x8 x9 x10 x11 x12 (iN i) x14, .tmp (.val (.int (i : Int))), lawE ns (.pot cs1 m1 t1) x2 (iN h) x4 x5 x6 x7 x8 x9 x10 x11 x12 (iN i) x14, .int (i : Int), lawE ns (.pot cs1 m1 t1) x2 (iN h) x4 x5 x6 x7 x8 x9 x10 x11 x12 (iN i) x14, ?_, x_val rfl, rfl, by omega, cs1, m1, t1, _, rfl, g2, by rw [List.length_append, List.length_singleton]; omega, fun y hy => ?_⟩
        · apply x_end
          · repeat' (first | (with_reducible assumption) | (with_reducible exact x_dat) | (with_reducible exact x_nil) | (with_reducible exact y_skip) | (with_reducible exact x_retB) | (with_reducible refine x_val ?_; rfl) | (with_reducible refine x_own ?_; rfl) | (with_reducible refine x_io ?_; rfl) | (with_reducible apply x_cons) | (with_reducible apply z_T) | (with_reducible apply z_F) | (with_reducible apply y_seq) | (with_reducible apply y_set) | (with_reducible apply y_expr) | (with_reducible apply y_ret) | (with_reducible apply y_if) | (with_reducible apply x_if) | (with_reducible apply x_and) | (with_reducible apply x_or) | (with_reducible apply x_not) | (with_reducible apply x_test) | (with_reducible apply x_op2) | (with_reducible apply x_op1) | (with_reducible apply x_callB) | (with_reducible apply x_tup) | (with_reducible apply x_lst) | (with_reducible apply x_met) | (with_reducible apply x_call) | (with_reducible apply y_par2) | (with_reducible apply y_par3) | (with_reducible apply y_unp) | (with_reducible apply y_for) | (with_reducible apply x_rng1) | (with_reducible apply x_rng2) | (with_reducible apply x_seq) | (with_reducible apply x_enum) | (with_reducible apply x_still) | (with_reducible apply x_rgL1) | (with_reducible exact g1) | (with_reducible exact g5) | (with_reducible exact decide_eq_true (by omega)) | (with_reducible exact decide_eq_false (by omega)) | (with_reducible exact f_append (by omega)) | (with_reducible exact small_le (by omega)) | (with_reducible exact f_rng1 (big_of (by omega) (by omega))) | (exact ⟨.inl rfl, rfl⟩) | (exact (rfl : (_ : Bool) = true)) | (exact (rfl : (_ : Bool) = false)) | (rfl))
          · rfl
          · rfl
        · rcases List.mem_append.mp hy with q | q
          · exact h3 y q
          · rw [List.mem_singleton.mp q]
            exact ⟨i, rfl, hlt⟩
      · rw [decide_eq_false z] at g5
        refine .inl ⟨lawE ns (.pot cs1 m1 t1) x2 (iN h) x4 x5 x6 x7 x8 x9 x10 x11 x12 (iN i) x14, ?_, cs1, m1, t1, _, rfl, g2, by omega, h3⟩
        apply x_end
        · repeat' (first | (with_reducible assumption) | (with_reducible exact x_dat) | (with_reducible exact x_nil) | (with_reducible exact y_skip) | (with_reducible exact x_retB) | (with_reducible refine x_val ?_; rfl) | (with_reducible refine x_own ?_; rfl) | (with_reducible refine x_io ?_; rfl) | (with_reducible apply x_cons) | (with_reducible apply z_T) | (with_reducible apply z_F) | (with_reducible apply y_seq) | (with_reducible apply y_set) | (with_reducible apply y_expr) | (with_reducible apply y_ret) | (with_reducible apply y_if) | (with_reducible apply x_if) | (with_reducible apply x_and) | (with_reducible apply x_or) | (with_reducible apply x_not) | (with_reducible apply x_test) | (with_reducible apply x_op2) | (with_reducible apply x_op1) | (with_reducible apply x_callB) | (with_reducible apply x_tup) | (with_reducible apply x_lst) | (with_reducible apply x_met) | (with_reducible apply x_call) | (with_reducible apply y_par2) | (with_reducible apply y_par3) | (with_reducible apply y_unp) | (with_reducible apply y_for) | (with_reducible apply x_rng1) | (with_reducible apply x_rng2) | (with_reducible apply x_seq) | (with_reducible apply x_enum) | (with_reducible apply x_still) | (with_reducible apply x_rgL1) | (with_reducible exact g1) | (with_reducible exact g5) | (with_reducible exact decide_eq_true (by omega)) | (with_reducible exact decide_eq_false (by omega)) | (with_reducible exact f_append (by omega)) | (with_reducible exact small_le (by omega)) | (with_reducible exact f_rng1 (big_of (by omega) (by omega))) | (exact ⟨.inl rfl, rfl⟩) | (exact (rfl : (_ : Bool) = true)) | (exact (rfl : (_ : Bool) = false)) | (rfl))
        · rfl
        · rfl)
  rw [Nat.zero_add, rgs_len] at h3
  refine ⟨cs', m', t', acc, ?_, h2, h3, h4⟩
  have hpl : ([13].all fun v => VL.plain (lawE ns (.pot cs m t) x2 (iN h) x4 x5 x6 x7 x8 x9 x10 x11 x12 x13 x14) v) = true := by
    rcases hp with rfl | ⟨d, rfl⟩ <;> rfl
  exact x_lc (mi := still (iRng1 (mCons (mVar 3) (M.ret [])))) (ds := rgs 0 h) (e1 := lawE ns (.pot cs m t) x2 (iN h) x4 x5 x6 x7 x8 x9 x10 x11 x12 x13 x14) (x_still (x_rng1 (x_cons (x_val rfl) x_nil) rfl (f_rngN (by omega)))) hpl h1
theorem law_long (pot : Ob) (fs ws hs : List Dt) (H : Hands ws.length hs) (W : Ways ws) (hp : Pl x13) :
    llaw_4 (lawE ns pot x2 x3 x4 x5 x6 x7 x8 x9 x10 (some (.val (.tuple [.tuple fs, .tuple ws]))) (some (.val (.tuple hs))) x13 x14) = .ok (.tmp (.own (.lst (hs.filter (longW ws))))) (lawE ns pot x2 x3 x4 x5 x6 x7 x8 x9 x10 (some (.val (.tuple [.tuple fs, .tuple ws]))) (some (.val (.tuple hs))) x13 x14) := by
  obtain ⟨acc, e', h1, y13, rfl, h2⟩ := itL_eq (g := gN 13) (t := mTest (mOp2 fGt (mCallB fLen (mCons (mOp2 fIx (mOp2 fIx (mVar 11) (mDat (.int 1))) (mVar 13)) (M.ret []))) (mDat (.int 22)))) (m := mVar 13) (vs := [13]) (all := hs)
    (fun i acc e => ∃ y13, e = lawE ns pot x2 x3 x4 x5 x6 x7 x8 x9 x10 (some (.val (.tuple [.tuple fs, .tuple ws]))) (some (.val (.tuple hs))) y13 x14 ∧ acc = (hs.take i).filter (longW ws))
    hs [] (lawE ns pot x2 x3 x4 x5 x6 x7 x8 x9 x10 (some (.val (.tuple [.tuple fs, .tuple ws]))) (some (.val (.tuple hs))) x13 x14) 0 ⟨x13, rfl, rfl⟩ (by
      rintro i d acc e hi ⟨y13, rfl, h1⟩
      rw [Nat.zero_add] at h1 ⊢
      have hlt : i < hs.length := (List.getElem?_eq_some_iff.mp hi).1
      have hal : acc.length ≤ i := by
        rw [h1]
        exact Nat.le_trans (List.length_filter_le _ _) (by rw [List.length_take]; omega)
      have hle := H.2
      obtain ⟨j, rfl, hj⟩ := H.1 d (List.mem_of_getElem? hi)
      obtain ⟨w, hw⟩ : ∃ w, ws[j]? = some w := ⟨_, List.getElem?_eq_getElem hj⟩
      obtain ⟨ts, rfl, ht⟩ := W.1 w (List.mem_of_getElem? hw)
      have q0 : fIx (.tuple [.tuple fs, .tuple ws]) (.int 1) = some (.val (.tuple ws)) := rfl
      have q1 := f_ixT hw
      have q2 := len_T ts
      have q4 := gt22 ts.length
      have q5 := long_at hw
      refine ⟨lawE ns pot x2 x3 x4 x5 x6 x7 x8 x9 x10 (some (.val (.tuple [.tuple fs, .tuple ws]))) (some (.val (.tuple hs))) (iN j) x14, rfl, ?_⟩
      by_cases z : 22 < ts.length
      · rw [decide_eq_true z] at q4 q5
        refine .inr ⟨lawE ns pot x2 x3 x4 x5 x6 x7 x8 x9 x10 (some (.val (.tuple [.tuple fs, .tuple ws]))) (some (.val (.tuple hs))) (iN j) x14, .tmp (.val (.int j)), lawE ns pot x2 x3 x4 x5 x6 x7 x8 x9 x10 (some (.val (.tuple [.tuple fs, .tuple ws]))) (some (.val (.tuple hs))) (iN j) x14, .int j, lawE ns pot x2 x3 x4 x5 x6 x7 x8 x9 x10 (some (.val (.tuple [.tuple fs, .tuple ws]))) (some (.val (.tuple hs))) (iN j) x14, ?_, x_val rfl, rfl, by omega, _, rfl, ?_⟩
        · repeat' (first | (with_reducible assumption) | (with_reducible exact x_dat) | (with_reducible exact x_nil) | (with_reducible exact y_skip) | (with_reducible exact x_retB) | (with_reducible refine x_val ?_; rfl) | (with_reducible refine x_own ?_; rfl) | (with_reducible refine x_io ?_; rfl) | (with_reducible apply x_cons) | (with_reducible apply z_T) | (with_reducible apply z_F) | (with_reducible apply y_seq) | (with_reducible apply y_set) | (with_reducible apply y_expr) | (with_reducible apply y_ret) | (with_reducible apply y_if) | (with_reducible apply x_if) | (with_reducible apply x_and) | (with_reducible apply x_or) | (with_reducible apply x_not) | (with_reducible apply x_test) | (with_reducible apply x_op2) | (with_reducible apply x_op1) | (with_reducible apply x_callB) | (with_reducible apply x_tup) | (with_reducible apply x_lst) | (with_reducible apply x_met) | (with_reducible apply x_call) | (with_reducible apply y_par2) | (with_reducible apply y_par3) | (with_reducible apply y_unp) | (with_reducible apply y_for) | (with_reducible apply x_rng1) | (with_reducible apply x_rng2) | (with_reducible apply x_seq) | (with_reducible apply x_enum) | (with_reducible apply x_still) | (with_reducible apply x_rgL1) | (with_reducible exact q0) | (with_reducible exact q1) | (with_reducible exact q2) | (with_reducible exact q4) | (with_reducible exact decide_eq_true (by omega)) | (with_reducible exact decide_eq_false (by omega)) | (with_reducible exact f_append (by omega)) | (with_reducible exact small_le (by omega)) | (with_reducible exact f_rng1 (big_of (by omega) (by omega))) | (exact ⟨.inl rfl, rfl⟩) | (exact (rfl : (_ : Bool) = true)) | (exact (rfl : (_ : Bool) = false)) | (rfl))
        · rw [h1, List.take_add_one, hi, List.filter_append]
          simp [q5]
      · rw [decide_eq_false z] at q4 q5
        refine .inl ⟨lawE ns pot x2 x3 x4 x5 x6 x7 x8 x9 x10 (some (.val (.tuple [.tuple fs, .tuple ws]))) (some (.val (.tuple hs))) (iN j) x14, ?_, _, rfl, ?_⟩
        · repeat' (first | (with_reducible assumption) | (with_reducible exact x_dat) | (with_reducible exact x_nil) | (with_reducible exact y_skip) | (with_reducible exact x_retB) | (with_reducible refine x_val ?_; rfl) | (with_reducible refine x_own ?_; rfl) | (with_reducible refine x_io ?_; rfl) | (with_reducible apply x_cons) | (with_reducible apply z_T) | (with_reducible apply z_F) | (with_reducible apply y_seq) | (with_reducible apply y_set) | (with_reducible apply y_expr) | (with_reducible apply y_ret) | (with_reducible apply y_if) | (with_reducible apply x_if) | (with_reducible apply x_and) | (with_reducible apply x_or) | (with_reducible apply x_not) | (with_reducible apply x_test) | (with_reducible apply x_op2) | (with_reducible apply x_op1) | (with_reducible apply x_callB) | (with_reducible apply x_tup) | (with_reducible apply x_lst) | (with_reducible apply x_met) | (with_reducible apply x_call) | (with_reducible apply y_par2) | (with_reducible apply y_par3) | (with_reducible apply y_unp) | (with_reducible apply y_for) | (with_reducible apply x_rng1) | (with_reducible apply x_rng2) | (with_reducible apply x_seq) | (with_reducible apply x_enum) | (with_reducible apply x_still) | (with_reducible apply x_rgL1) | (with_reducible exact q0) | (with_reducible exact q1) | (with_reducible exact q2) | (with_reducible exact q4) | (with_reducible exact decide_eq_true (by omega)) | (with_reducible exact decide_eq_false (by omega)) | (with_reducible exact f_append (by omega)) | (with_reducible exact small_le (by omega)) | (with_reducible exact f_rng1 (big_of (by omega) (by omega))) | (exact ⟨.inl rfl, rfl⟩) | (exact (rfl : (_ : Bool) = true)) | (exact (rfl : (_ : Bool) = false)) | (rfl))
        · rw [h1, List.take_add_one, hi, List.filter_append]
          simp [q5])
  rw [Nat.zero_add, List.take_of_length_le (Nat.le_refl _)] at h2
  subst h2
  have hpl : ([13].all fun v => VL.plain (lawE ns pot x2 x3 x4 x5 x6 x7 x8 x9 x10 (some (.val (.tuple [.tuple fs, .tuple ws]))) (some (.val (.tuple hs))) x13 x14) v) = true := by
    rcases hp with rfl | ⟨d, rfl⟩ <;> rfl
  exact x_lc (mi := still (iSeq (mVar 12))) (ds := hs) (e1 := lawE ns pot x2 x3 x4 x5 x6 x7 x8 x9 x10 (some (.val (.tuple [.tuple fs, .tuple ws]))) (some (.val (.tuple hs))) x13 x14) (x_still (x_seq (x_val rfl) rfl rfl)) hpl h1
end
end KD


namespace KD
open PySem PySem.Spec L2 VL
open PyProof.Rows hiding St
section
variable (ns : List Int) (x2 x3 x4 x5 x6 x7 x8 x9 x10 x11 x12 x13 x14 : Option Tv)
abbrev houD (fs ws : List Dt) : Option Tv := some (.val (.tuple [.tuple fs, .tuple ws]))
theorem law_house2 (cs : List Int) (m t : Int) (k h r : Nat) (fs ws : List Dt) (hc : cs.length ≤ 63) (hh : 1 ≤ h ∧ h ≤ 5) (hr : 1 ≤ r ∧ r ≤ 6) (p13 : Pl x13) (p14 : Pl x14) (hl : ws.length = h) (hw : ∀ w ∈ ws, wayLike r 25 w) :
    ∃ cs' m' t' ws' y5 y6, sIf (mTest (mOp2 fGt (mVar 2) (mDat (.int 1)))) (S.seq (sSet 5 (llaw_1)) (S.seq (sSet 6 (llaw_2)) (sSet 11 (mTup (mCons (mOp2 fIx (mVar 11) (mDat (.int 0))) (mCons (mCallB fTuple (mCons (mVar 6) (M.ret []))) (M.ret []))))))) (S.skip) (lawE ns (.pot cs m t) (iN k) (iN h) (iN r) x5 x6 x7 x8 x9 x10 (houD fs ws) x12 x13 x14) =
      .nx (lawE ns (.pot cs' m' t') (iN k) (iN h) (iN r) y5 y6 x7 x8 x9 x10 (houD fs ws') x12 x13 x14) ∧ cs'.length ≤ 63 ∧ ws'.length = h ∧ ∀ w ∈ ws', wayLike r 25 w := by
  have q := fGtI (k : Int) 1
  by_cases z : (k : Int) > 1
  · rw [decide_eq_true z] at q
    obtain ⟨cs1, m1, t1, sz, g1, g2, g3, g4⟩ := law_sizes ns (iN k) (iN r) x5 x6 x7 x8 x9 x10 (houD fs ws) x12 x13 x14 cs m t h (by omega) hc p13
    obtain ⟨cs2, m2, t2, ws', g5, g6, g7, g8⟩ := law_ways ns (iN k) (iN h) x6 x7 x8 x9 x10 (houD fs ws) x12 x13 x14 cs1 m1 t1 r sz (by omega) (by omega) g4 g2 p14
    refine ⟨cs2, m2, t2, ws', some (.val (.list sz)), some (.own (.lst ws')), ?_, g6, by omega, g8⟩
    have q2 : fIx (.tuple [.tuple fs, .tuple ws]) (.int 0) = some (.val (.tuple fs)) := rfl
    have q3 : fTuple [.list ws'] = some (.val (.tuple ws')) := rfl
    refine y_ifT (b := true) (e1 := lawE ns (.pot cs m t) (iN k) (iN h) (iN r) x5 x6 x7 x8 x9 x10 (houD fs ws) x12 x13 x14) ?_ rfl (y_seq (e1 := lawE ns (.pot cs1 m1 t1) (iN k) (iN h) (iN r) (some (.own (.lst sz))) x6 x7 x8 x9 x10 (houD fs ws) x12 x13 x14) (y_set g1 rfl) (y_seq (e1 := lawE ns (.pot cs2 m2 t2) (iN k) (iN h) (iN r) (some (.val (.list sz))) (some (.own (.lst ws'))) x7 x8 x9 x10 (houD fs ws) x12 x13 x14) (y_set g5 rfl) ?_))
    · repeat' (first | (with_reducible assumption) | (with_reducible exact x_dat) | (with_reducible exact x_nil) | (with_reducible exact y_skip) | (with_reducible exact x_retB) | (with_reducible refine x_val ?_; rfl) | (with_reducible refine x_own ?_; rfl) | (with_reducible refine x_io ?_; rfl) | (with_reducible apply x_cons) | (with_reducible apply z_T) | (with_reducible apply z_F) | (with_reducible apply y_seq) | (with_reducible apply y_set) | (with_reducible apply y_expr) | (with_reducible apply y_ret) | (with_reducible apply y_if) | (with_reducible apply x_if) | (with_reducible apply x_and) | (with_reducible apply x_or) | (with_reducible apply x_not) | (with_reducible apply x_test) | (with_reducible apply x_op2) | (with_reducible apply x_op1) | (with_reducible apply x_callB) | (with_reducible apply x_tup) | (with_reducible apply x_lst) | (with_reducible apply x_met) | (with_reducible apply x_call) | (with_reducible apply y_par2) | (with_reducible apply y_par3) | (with_reducible apply y_unp) | (with_reducible apply y_for) | (with_reducible apply x_rng1) | (with_reducible apply x_rng2) | (with_reducible apply x_seq) | (with_reducible apply x_enum) | (with_reducible apply x_still) | (with_reducible apply x_rgL1) | (with_reducible exact q) | (with_reducible exact decide_eq_true (by omega)) | (with_reducible exact decide_eq_false (by omega)) | (with_reducible exact f_append (by omega)) | (with_reducible exact small_le (by omega)) | (with_reducible exact f_rng1 (big_of (by omega) (by omega))) | (exact ⟨.inl rfl, rfl⟩) | (exact (rfl : (_ : Bool) = true)) | (exact (rfl : (_ : Bool) = false)) | (rfl))
    · apply y_end
      · repeat' (first | (with_reducible assumption) | (with_reducible exact x_dat) | (with_reducible exact x_nil) | (with_reducible exact y_skip) | (with_reducible exact x_retB) | (with_reducible refine x_val ?_; rfl) | (with_reducible refine x_own ?_; rfl) | (with_reducible refine x_io ?_; rfl) | (with_reducible apply x_cons) | (with_reducible apply z_T) | (with_reducible apply z_F) | (with_reducible apply y_seq) | (with_reducible apply y_set) | (with_reducible apply y_expr) | (with_reducible apply y_ret) | (with_reducible apply y_if) | (with_reducible apply x_if) | (with_reducible apply x_and) | (with_reducible apply x_or) | (with_reducible apply x_not) | (with_reducible apply x_test) | (with_reducible apply x_op2) | (with_reducible apply x_op1) | (with_reducible apply x_callB) | (with_reducible apply x_tup) | (with_reducible apply x_lst) | (with_reducible apply x_met) | (with_reducible apply x_call) | (with_reducible apply y_par2) | (with_reducible apply y_par3) | (with_reducible apply y_unp) | (with_reducible apply y_for) | (with_reducible apply x_rng1) | (with_reducible apply x_rng2) | (with_reducible apply x_seq) | (with_reducible apply x_enum) | (with_reducible apply x_still) | (with_reducible apply x_rgL1) | (with_reducible exact q2) | (with_reducible exact q3) | (with_reducible exact decide_eq_true (by omega)) | (with_reducible exact decide_eq_false (by omega)) | (with_reducible exact f_append (by omega)) | (with_reducible exact small_le (by omega)) | (with_reducible exact f_rng1 (big_of (by omega) (by omega))) | (exact ⟨.inl rfl, rfl⟩) | (exact (rfl : (_ : Bool) = true)) | (exact (rfl : (_ : Bool) = false)) | (rfl))
      · rfl
  · rw [decide_eq_false z] at q
    refine ⟨cs, m, t, ws, x5, x6, ?_, hc, hl, hw⟩
    refine y_ifF (b := false) (e1 := lawE ns (.pot cs m t) (iN k) (iN h) (iN r) x5 x6 x7 x8 x9 x10 (houD fs ws) x12 x13 x14) ?_ rfl rfl
    repeat' (first | (with_reducible assumption) | (with_reducible exact x_dat) | (with_reducible exact x_nil) | (with_reducible exact y_skip) | (with_reducible exact x_retB) | (with_reducible refine x_val ?_; rfl) | (with_reducible refine x_own ?_; rfl) | (with_reducible refine x_io ?_; rfl) | (with_reducible apply x_cons) | (with_reducible apply z_T) | (with_reducible apply z_F) | (with_reducible apply y_seq) | (with_reducible apply y_set) | (with_reducible apply y_expr) | (with_reducible apply y_ret) | (with_reducible apply y_if) | (with_reducible apply x_if) | (with_reducible apply x_and) | (with_reducible apply x_or) | (with_reducible apply x_not) | (with_reducible apply x_test) | (with_reducible apply x_op2) | (with_reducible apply x_op1) | (with_reducible apply x_callB) | (with_reducible apply x_tup) | (with_reducible apply x_lst) | (with_reducible apply x_met) | (with_reducible apply x_call) | (with_reducible apply y_par2) | (with_reducible apply y_par3) | (with_reducible apply y_unp) | (with_reducible apply y_for) | (with_reducible apply x_rng1) | (with_reducible apply x_rng2) | (with_reducible apply x_seq) | (with_reducible apply x_enum) | (with_reducible apply x_still) | (with_reducible apply x_rgL1) | (with_reducible exact q) | (with_reducible exact decide_eq_true (by omega)) | (with_reducible exact decide_eq_false (by omega)) | (with_reducible exact f_append (by omega)) | (with_reducible exact small_le (by omega)) | (with_reducible exact f_rng1 (big_of (by omega) (by omega))) | (exact ⟨.inl rfl, rfl⟩) | (exact (rfl : (_ : Bool) = true)) | (exact (rfl : (_ : Bool) = false)) | (rfl))
theorem law_bar {h r : Nat} {fs ws hs : List Dt} (D : Drawn h r fs ws hs) (pot : Ob) (p13 : Pl x13) :
    sIf (mOr (mTest (mOp2 fEq (mVar 4) (mDat (.int 6)))) (mTest (mOp2 fNe (llaw_4) (mLst (M.ret []))))) (sSet 9 (mLst (mCons (mDat (.str ("unfit" : Str))) (mCons (mDat (.bool true)) (mCons (mDat (.bool false)) (M.ret [])))))) (S.skip)
      (lawE ns pot x2 x3 (iN r) x5 x6 x7 x8 (some (.own (.lst [.str ("told" : Str), told fs hs ws]))) x10 (houD fs ws) (some (.val (.tuple hs))) x13 x14) = .nx (lawE ns pot x2 x3 (iN r) x5 x6 x7 x8 (some (.own (.lst (dueD fs hs ws)))) x10 (houD fs ws) (some (.val (.tuple hs))) x13 x14) := by
  have q1 := feqI (r : Int) 6
  have q2 := law_long ns x2 x3 (iN r) x5 x6 x7 x8 (some (.own (.lst [.str ("told" : Str), told fs hs ws]))) x10 x13 x14 pot fs ws hs D.hands D.ways p13
  have q3 := neNil (hs.filter (longW ws)) (shaped_flat _ fun d hd => flat_int (D.hands.int d (List.mem_filter.mp hd).1))
  have fl := D.fl
  unfold dueD
  by_cases z : r = 6
  · rw [decide_eq_true (by omega)] at q1
    rw [if_pos (.inl (by omega))]
    refine y_ifT (b := true) (e1 := lawE ns pot x2 x3 (iN r) x5 x6 x7 x8 (some (.own (.lst [.str ("told" : Str), told fs hs ws]))) x10 (houD fs ws) (some (.val (.tuple hs))) x13 x14) ?_ rfl ?_
    · repeat' (first | (with_reducible assumption) | (with_reducible exact x_dat) | (with_reducible exact x_nil) | (with_reducible exact y_skip) | (with_reducible exact x_retB) | (with_reducible refine x_val ?_; rfl) | (with_reducible refine x_own ?_; rfl) | (with_reducible refine x_io ?_; rfl) | (with_reducible apply x_cons) | (with_reducible apply z_T) | (with_reducible apply z_F) | (with_reducible apply y_seq) | (with_reducible apply y_set) | (with_reducible apply y_expr) | (with_reducible apply y_ret) | (with_reducible apply y_if) | (with_reducible apply x_if) | (with_reducible apply x_and) | (with_reducible apply x_or) | (with_reducible apply x_not) | (with_reducible apply x_test) | (with_reducible apply x_op2) | (with_reducible apply x_op1) | (with_reducible apply x_callB) | (with_reducible apply x_tup) | (with_reducible apply x_lst) | (with_reducible apply x_met) | (with_reducible apply x_call) | (with_reducible apply y_par2) | (with_reducible apply y_par3) | (with_reducible apply y_unp) | (with_reducible apply y_for) | (with_reducible apply x_rng1) | (with_reducible apply x_rng2) | (with_reducible apply x_seq) | (with_reducible apply x_enum) | (with_reducible apply x_still) | (with_reducible apply x_rgL1) | (with_reducible exact q1) | (with_reducible exact decide_eq_true (by omega)) | (with_reducible exact decide_eq_false (by omega)) | (with_reducible exact f_append (by omega)) | (with_reducible exact small_le (by omega)) | (with_reducible exact f_rng1 (big_of (by omega) (by omega))) | (exact ⟨.inl rfl, rfl⟩) | (exact (rfl : (_ : Bool) = true)) | (exact (rfl : (_ : Bool) = false)) | (rfl))
    · apply y_end
      · repeat' (first | (with_reducible assumption) | (with_reducible exact x_dat) | (with_reducible exact x_nil) | (with_reducible exact y_skip) | (with_reducible exact x_retB) | (with_reducible refine x_val ?_; rfl) | (with_reducible refine x_own ?_; rfl) | (with_reducible refine x_io ?_; rfl) | (with_reducible apply x_cons) | (with_reducible apply z_T) | (with_reducible apply z_F) | (with_reducible apply y_seq) | (with_reducible apply y_set) | (with_reducible apply y_expr) | (with_reducible apply y_ret) | (with_reducible apply y_if) | (with_reducible apply x_if) | (with_reducible apply x_and) | (with_reducible apply x_or) | (with_reducible apply x_not) | (with_reducible apply x_test) | (with_reducible apply x_op2) | (with_reducible apply x_op1) | (with_reducible apply x_callB) | (with_reducible apply x_tup) | (with_reducible apply x_lst) | (with_reducible apply x_met) | (with_reducible apply x_call) | (with_reducible apply y_par2) | (with_reducible apply y_par3) | (with_reducible apply y_unp) | (with_reducible apply y_for) | (with_reducible apply x_rng1) | (with_reducible apply x_rng2) | (with_reducible apply x_seq) | (with_reducible apply x_enum) | (with_reducible apply x_still) | (with_reducible apply x_rgL1) | (with_reducible exact decide_eq_true (by omega)) | (with_reducible exact decide_eq_false (by omega)) | (with_reducible exact f_append (by omega)) | (with_reducible exact small_le (by omega)) | (with_reducible exact f_rng1 (big_of (by omega) (by omega))) | (exact ⟨.inl rfl, rfl⟩) | (exact (rfl : (_ : Bool) = true)) | (exact (rfl : (_ : Bool) = false)) | (rfl))
      · rfl
  · rw [decide_eq_false (by omega)] at q1
    cases zz : (hs.filter (longW ws)).isEmpty with
    | true =>
      rw [zz] at q3
      rw [if_neg (by rintro (h | h); exact z (by omega); exact h (List.isEmpty_iff.mp zz))]
      refine y_ifF (b := false) (e1 := lawE ns pot x2 x3 (iN r) x5 x6 x7 x8 (some (.own (.lst [.str ("told" : Str), told fs hs ws]))) x10 (houD fs ws) (some (.val (.tuple hs))) x13 x14) ?_ rfl rfl
      repeat' (first | (with_reducible assumption) | (with_reducible exact x_dat) | (with_reducible exact x_nil) | (with_reducible exact y_skip) | (with_reducible exact x_retB) | (with_reducible refine x_val ?_; rfl) | (with_reducible refine x_own ?_; rfl) | (with_reducible refine x_io ?_; rfl) | (with_reducible apply x_cons) | (with_reducible apply z_T) | (with_reducible apply z_F) | (with_reducible apply y_seq) | (with_reducible apply y_set) | (with_reducible apply y_expr) | (with_reducible apply y_ret) | (with_reducible apply y_if) | (with_reducible apply x_if) | (with_reducible apply x_and) | (with_reducible apply x_or) | (with_reducible apply x_not) | (with_reducible apply x_test) | (with_reducible apply x_op2) | (with_reducible apply x_op1) | (with_reducible apply x_callB) | (with_reducible apply x_tup) | (with_reducible apply x_lst) | (with_reducible apply x_met) | (with_reducible apply x_call) | (with_reducible apply y_par2) | (with_reducible apply y_par3) | (with_reducible apply y_unp) | (with_reducible apply y_for) | (with_reducible apply x_rng1) | (with_reducible apply x_rng2) | (with_reducible apply x_seq) | (with_reducible apply x_enum) | (with_reducible apply x_still) | (with_reducible apply x_rgL1) | (with_reducible exact q1) | (with_reducible exact q3) | ((with_reducible show llaw_4 _ = _); exact q2) | (with_reducible exact decide_eq_true (by omega)) | (with_reducible exact decide_eq_false (by omega)) | (with_reducible exact f_append (by omega)) | (with_reducible exact small_le (by omega)) | (with_reducible exact f_rng1 (big_of (by omega) (by omega))) | (exact ⟨.inl rfl, rfl⟩) | (exact (rfl : (_ : Bool) = true)) | (exact (rfl : (_ : Bool) = false)) | (rfl))
    | false =>
      rw [zz] at q3
      rw [if_pos (.inr fun h => by rw [h] at zz; cases zz)]
      refine y_ifT (b := true) (e1 := lawE ns pot x2 x3 (iN r) x5 x6 x7 x8 (some (.own (.lst [.str ("told" : Str), told fs hs ws]))) x10 (houD fs ws) (some (.val (.tuple hs))) x13 x14) ?_ rfl ?_
      · repeat' (first | (with_reducible assumption) | (with_reducible exact x_dat) | (with_reducible exact x_nil) | (with_reducible exact y_skip) | (with_reducible exact x_retB) | (with_reducible refine x_val ?_; rfl) | (with_reducible refine x_own ?_; rfl) | (with_reducible refine x_io ?_; rfl) | (with_reducible apply x_cons) | (with_reducible apply z_T) | (with_reducible apply z_F) | (with_reducible apply y_seq) | (with_reducible apply y_set) | (with_reducible apply y_expr) | (with_reducible apply y_ret) | (with_reducible apply y_if) | (with_reducible apply x_if) | (with_reducible apply x_and) | (with_reducible apply x_or) | (with_reducible apply x_not) | (with_reducible apply x_test) | (with_reducible apply x_op2) | (with_reducible apply x_op1) | (with_reducible apply x_callB) | (with_reducible apply x_tup) | (with_reducible apply x_lst) | (with_reducible apply x_met) | (with_reducible apply x_call) | (with_reducible apply y_par2) | (with_reducible apply y_par3) | (with_reducible apply y_unp) | (with_reducible apply y_for) | (with_reducible apply x_rng1) | (with_reducible apply x_rng2) | (with_reducible apply x_seq) | (with_reducible apply x_enum) | (with_reducible apply x_still) | (with_reducible apply x_rgL1) | (with_reducible exact q1) | (with_reducible exact q3) | ((with_reducible show llaw_4 _ = _); exact q2) | (with_reducible exact decide_eq_true (by omega)) | (with_reducible exact decide_eq_false (by omega)) | (with_reducible exact f_append (by omega)) | (with_reducible exact small_le (by omega)) | (with_reducible exact f_rng1 (big_of (by omega) (by omega))) | (exact ⟨.inl rfl, rfl⟩) | (exact (rfl : (_ : Bool) = true)) | (exact (rfl : (_ : Bool) = false)) | (rfl))
      · apply y_end
        · repeat' (first | (with_reducible assumption) | (with_reducible exact x_dat) | (with_reducible exact x_nil) | (with_reducible exact y_skip) | (with_reducible exact x_retB) | (with_reducible refine x_val ?_; rfl) | (with_reducible refine x_own ?_; rfl) | (with_reducible refine x_io ?_; rfl) | (with_reducible apply x_cons) | (with_reducible apply z_T) | (with_reducible apply z_F) | (with_reducible apply y_seq) | (with_reducible apply y_set) | (with_reducible apply y_expr) | (with_reducible apply y_ret) | (with_reducible apply y_if) | (with_reducible apply x_if) | (with_reducible apply x_and) | (with_reducible apply x_or) | (with_reducible apply x_not) | (with_reducible apply x_test) | (with_reducible apply x_op2) | (with_reducible apply x_op1) | (with_reducible apply x_callB) | (with_reducible apply x_tup) | (with_reducible apply x_lst) | (with_reducible apply x_met) | (with_reducible apply x_call) | (with_reducible apply y_par2) | (with_reducible apply y_par3) | (with_reducible apply y_unp) | (with_reducible apply y_for) | (with_reducible apply x_rng1) | (with_reducible apply x_rng2) | (with_reducible apply x_seq) | (with_reducible apply x_enum) | (with_reducible apply x_still) | (with_reducible apply x_rgL1) | (with_reducible exact decide_eq_true (by omega)) | (with_reducible exact decide_eq_false (by omega)) | (with_reducible exact f_append (by omega)) | (with_reducible exact small_le (by omega)) | (with_reducible exact f_rng1 (big_of (by omega) (by omega))) | (exact ⟨.inl rfl, rfl⟩) | (exact (rfl : (_ : Bool) = true)) | (exact (rfl : (_ : Bool) = false)) | (rfl))
        · rfl
theorem one_hands (cs : List Int) (m t : Int) (h : Nat) (row : List Dt) (hc : cs.length ≤ 63) (hr : row.length ≤ h) (hd : ∀ d ∈ row, ∃ i : Nat, d = .int (i : Int) ∧ i < h) :
    ∃ hs cs' m' t', f_law_one [.io (.pot cs m t), .val (.list [.list row, .list row, .list row, .list (rgs 0 h), .list []])] = .ok (.val (.list hs)) (some (.pot cs' m' t')) ∧ cs'.length ≤ 63 ∧ hs.length ≤ h ∧ ∀ d ∈ hs, ∃ i : Nat, d = .int (i : Int) ∧ i < h := by
  obtain ⟨d, cs1, m1, t1, g1, g2, g3⟩ := one_ok cs m t [.list row, .list row, .list row, .list (rgs 0 h), .list []] hc (List.cons_ne_nil _ _) (by simp)
  simp only [List.mem_cons, List.not_mem_nil, or_false] at g3
  rcases g3 with rfl | rfl | rfl | rfl | rfl
  · exact ⟨row, cs1, m1, t1, g1, g2, hr, hd⟩
  · exact ⟨row, cs1, m1, t1, g1, g2, hr, hd⟩
  · exact ⟨row, cs1, m1, t1, g1, g2, hr, hd⟩
  · refine ⟨_, cs1, m1, t1, g1, g2, by rw [rgs_len]; omega, fun d hd => ?_⟩
    obtain ⟨i, hi, rfl⟩ := rgs_mem hd
    exact ⟨i, by rw [Int.zero_add], hi⟩
  · exact ⟨[], cs1, m1, t1, g1, g2, Nat.zero_le _, fun d hd => nomatch hd⟩
theorem law_turn (cs : List Int) (m t : Int) (k : Nat) (hc : cs.length ≤ 63) (p13 : Pl x13) (p14 : Pl x14) :
    ∃ cs' m' t' y3 y4 y5 y6 y7 y8 y9 y10 y11 y12, blaw_5 (lawE ns (.pot cs m t) (iN k) x3 x4 x5 x6 x7 x8 x9 x10 x11 x12 x13 x14) = .nx (lawE ns (.pot cs' m' t') (iN k) y3 y4 y5 y6 y7 y8 y9 y10 y11 y12 x13 x14) ∧ cs'.length ≤ 63 := by
  -- hands, rooms
  obtain ⟨a, cs1, m1, t1, a1, a2, a3, a4⟩ := of_ok cs m t 5 hc (by omega)
  obtain ⟨h, hh⟩ : ∃ h : Nat, (h : Int) = 1 + a := ⟨(1 + a).toNat, by omega⟩
  have a5 : fAdd (.int 1) (.int a) = some (.val (.int (h : Int))) := by rw [hh]; rfl
  obtain ⟨d, cs2, m2, t2, b1, b2, b3⟩ := one_ok cs1 m1 t1 [.int 1, .int 2, .int 3, .int 4, .int 5, .int 5, .int 6] a2 (List.cons_ne_nil _ _) (by simp)
  obtain ⟨r, hr, rfl⟩ : ∃ r : Nat, (1 ≤ r ∧ r ≤ 6) ∧ d = .int (r : Int) := by
    simp only [List.mem_cons, List.not_mem_nil, or_false] at b3
    rcases b3 with rfl | rfl | rfl | rfl | rfl | rfl | rfl
    · exact ⟨1, by omega, rfl⟩
    · exact ⟨2, by omega, rfl⟩
    · exact ⟨3, by omega, rfl⟩
    · exact ⟨4, by omega, rfl⟩
    · exact ⟨5, by omega, rfl⟩
    · exact ⟨5, by omega, rfl⟩
    · exact ⟨6, by omega, rfl⟩
  -- the house
  obtain ⟨c, cs3, m3, t3, c1, c2, c3, c4⟩ := of_ok cs2 m2 t2 4 b2 (by omega)
  obtain ⟨fs, ws0, cs4, m4, t4, d1, d2, ⟨d3, d4⟩, d5, d6⟩ := house_ok cs3 m3 t3 h r 6 3 false false c c2 (by omega) (by omega) (by omega) rfl (by omega)
  have d7 : ∀ w ∈ ws0, wayLike r 25 w := fun w hw => by
    obtain ⟨ts, e1, e2, e3⟩ := d6 w hw
    exact ⟨ts, e1, e2, Nat.le_trans e3 (by decide)⟩
  obtain ⟨cs5, m5, t5, ws, y5, y6, e1, e2, e3, e4⟩ := law_house2 ns x5 x6 x7 x8 x9 x10 x12 x13 x14 cs4 m4 t4 k h r fs ws0 d2 (by omega) hr p13 p14 d5 d7
  -- the hands that pass
  obtain ⟨cs6, m6, t6, row, f1, f2, f3, f4⟩ := law_row ns (iN k) (iN r) y5 y6 x7 x8 x9 x10 (houD fs ws) x12 x13 x14 cs5 m5 t5 h (by omega) e2 p13
  obtain ⟨hs, cs7, m7, t7, g1, g2, g3, g4⟩ := one_hands cs6 m6 t6 h row f2 f3 f4
  have g5 := f_rgL (n := h) (by omega)
  have g6 : fTuple [.list hs] = some (.val (.tuple hs)) := rfl
  have D : Drawn h r fs ws hs := ⟨by omega, by omega, hr.1, hr.2, d3, d4, e3, e4, g4, g3⟩
  obtain ⟨sm, hsm⟩ : ∃ x, x = (PyData.list [.tuple [.tuple fs, .tuple ws], .tuple hs]).shown := ⟨_, rfl⟩
  have h1 : fRepr [.list [.tuple [.tuple fs, .tuple ws], .tuple hs]] = some (.val (.str sm)) := by rw [hsm]; exact repr_ok (box_same D) (by omega) (by omega) rfl
  have h2 : fNe (.str sm) (.str sm) = some (.val (.bool false)) := by rw [hsm]; exact strNe (box_same D).text
  obtain ⟨dm, hdm⟩ : ∃ x, x = (PyData.list (dueD fs hs ws)).shown := ⟨_, rfl⟩
  have h3 : fRepr [.list (dueD fs hs ws)] = some (.val (.str dm)) := by rw [hdm]; exact repr_ok (box_due D) (by omega) (by omega) rfl
  have h4 : fNe (.str dm) (.str dm) = some (.val (.bool false)) := by rw [hdm]; exact strNe (box_due D).text
  have h5 : f_law_gated [.val (.tuple [.tuple fs, .tuple ws]), .val (.tuple hs)] = .ok (.val (told fs hs ws)) none := lg_ok hs fs ws D.hands D.ways (by omega)
  obtain ⟨y7, hy7⟩ : ∃ y : Option Tv, y = some (.val (.list row)) := ⟨_, rfl⟩
  refine ⟨cs7, m7, t7, iN h, iN r, y5, y6, y7, some (.val (.str sm)), some (.own (.lst (dueD fs hs ws))), some (.own (.lst (dueD fs hs ws))), houD fs ws, some (.val (.tuple hs)), ?_, g2⟩
  unfold blaw_5
  refine y_seq (e1 := lawE ns (.pot cs2 m2 t2) (iN k) (iN h) (iN r) x5 x6 x7 x8 x9 x10 x11 x12 x13 x14) ?_
    (y_seq (e1 := lawE ns (.pot cs4 m4 t4) (iN k) (iN h) (iN r) x5 x6 x7 x8 x9 x10 (houD fs ws0) x12 x13 x14) ?_
    (y_seq (e1 := lawE ns (.pot cs5 m5 t5) (iN k) (iN h) (iN r) y5 y6 x7 x8 x9 x10 (houD fs ws) x12 x13 x14) e1
    (y_seq (e1 := lawE ns (.pot cs6 m6 t6) (iN k) (iN h) (iN r) y5 y6 (some (.own (.lst row))) x8 x9 x10 (houD fs ws) x12 x13 x14) (y_set f1 rfl)
    (y_seq (e1 := lawE ns (.pot cs7 m7 t7) (iN k) (iN h) (iN r) y5 y6 y7 x8 x9 x10 (houD fs ws) (some (.val (.tuple hs))) x13 x14) ?_
    (y_seq (e1 := lawE ns (.pot cs7 m7 t7) (iN k) (iN h) (iN r) y5 y6 y7 (some (.val (.str sm))) (some (.own (.lst [.str ("told" : Str), told fs hs ws]))) x10 (houD fs ws) (some (.val (.tuple hs))) x13 x14) ?_
    (y_seq (law_bar ns (iN k) (iN h) y5 y6 y7 (some (.val (.str sm))) x10 x13 x14 D (.pot cs7 m7 t7) p13)
    (y_seq (e1 := lawE ns (.pot cs7 m7 t7) (iN k) (iN h) (iN r) y5 y6 y7 (some (.val (.str sm))) (some (.own (.lst (dueD fs hs ws)))) (some (.own (.lst (dueD fs hs ws)))) (houD fs ws) (some (.val (.tuple hs))) x13 x14) ?_
    (y_seq (e1 := lawE ns (.pot cs7 m7 t7) (iN k) (iN h) (iN r) y5 y6 y7 (some (.val (.str sm))) (some (.own (.lst (dueD fs hs ws)))) (some (.own (.lst (dueD fs hs ws)))) (houD fs ws) (some (.val (.tuple hs))) x13 x14) ?_ ?_))))))))
  · apply y_end
    · repeat' (first | (with_reducible assumption) | (with_reducible exact x_dat) | (with_reducible exact x_nil) | (with_reducible exact y_skip) | (with_reducible exact x_retB) | (with_reducible refine x_val ?_; rfl) | (with_reducible refine x_own ?_; rfl) | (with_reducible refine x_io ?_; rfl) | (with_reducible apply x_cons) | (with_reducible apply z_T) | (with_reducible apply z_F) | (with_reducible apply y_seq) | (with_reducible apply y_set) | (with_reducible apply y_expr) | (with_reducible apply y_ret) | (with_reducible apply y_if) | (with_reducible apply x_if) | (with_reducible apply x_and) | (with_reducible apply x_or) | (with_reducible apply x_not) | (with_reducible apply x_test) | (with_reducible apply x_op2) | (with_reducible apply x_op1) | (with_reducible apply x_callB) | (with_reducible apply x_tup) | (with_reducible apply x_lst) | (with_reducible apply x_met) | (with_reducible apply x_call) | (with_reducible apply y_par2) | (with_reducible apply y_par3) | (with_reducible apply y_unp) | (with_reducible apply y_for) | (with_reducible apply x_rng1) | (with_reducible apply x_rng2) | (with_reducible apply x_seq) | (with_reducible apply x_enum) | (with_reducible apply x_still) | (with_reducible apply x_rgL1) | (with_reducible exact a1) | (with_reducible exact a5) | (with_reducible exact b1) | (with_reducible exact decide_eq_true (by omega)) | (with_reducible exact decide_eq_false (by omega)) | (with_reducible exact f_append (by omega)) | (with_reducible exact small_le (by omega)) | (with_reducible exact f_rng1 (big_of (by omega) (by omega))) | (exact ⟨.inl rfl, rfl⟩) | (exact (rfl : (_ : Bool) = true)) | (exact (rfl : (_ : Bool) = false)) | (rfl))
    · rfl
  · apply y_end
    · repeat' (first | (with_reducible assumption) | (with_reducible exact x_dat) | (with_reducible exact x_nil) | (with_reducible exact y_skip) | (with_reducible exact x_retB) | (with_reducible refine x_val ?_; rfl) | (with_reducible refine x_own ?_; rfl) | (with_reducible refine x_io ?_; rfl) | (with_reducible apply x_cons) | (with_reducible apply z_T) | (with_reducible apply z_F) | (with_reducible apply y_seq) | (with_reducible apply y_set) | (with_reducible apply y_expr) | (with_reducible apply y_ret) | (with_reducible apply y_if) | (with_reducible apply x_if) | (with_reducible apply x_and) | (with_reducible apply x_or) | (with_reducible apply x_not) | (with_reducible apply x_test) | (with_reducible apply x_op2) | (with_reducible apply x_op1) | (with_reducible apply x_callB) | (with_reducible apply x_tup) | (with_reducible apply x_lst) | (with_reducible apply x_met) | (with_reducible apply x_call) | (with_reducible apply y_par2) | (with_reducible apply y_par3) | (with_reducible apply y_unp) | (with_reducible apply y_for) | (with_reducible apply x_rng1) | (with_reducible apply x_rng2) | (with_reducible apply x_seq) | (with_reducible apply x_enum) | (with_reducible apply x_still) | (with_reducible apply x_rgL1) | (with_reducible exact c1) | (with_reducible exact d1) | (with_reducible exact decide_eq_true (by omega)) | (with_reducible exact decide_eq_false (by omega)) | (with_reducible exact f_append (by omega)) | (with_reducible exact small_le (by omega)) | (with_reducible exact f_rng1 (big_of (by omega) (by omega))) | (exact ⟨.inl rfl, rfl⟩) | (exact (rfl : (_ : Bool) = true)) | (exact (rfl : (_ : Bool) = false)) | (rfl))
    · rfl
  · apply y_end
    · repeat' (first | (with_reducible assumption) | (with_reducible exact x_dat) | (with_reducible exact x_nil) | (with_reducible exact y_skip) | (with_reducible exact x_retB) | (with_reducible refine x_val ?_; rfl) | (with_reducible refine x_own ?_; rfl) | (with_reducible refine x_io ?_; rfl) | (with_reducible apply x_cons) | (with_reducible apply z_T) | (with_reducible apply z_F) | (with_reducible apply y_seq) | (with_reducible apply y_set) | (with_reducible apply y_expr) | (with_reducible apply y_ret) | (with_reducible apply y_if) | (with_reducible apply x_if) | (with_reducible apply x_and) | (with_reducible apply x_or) | (with_reducible apply x_not) | (with_reducible apply x_test) | (with_reducible apply x_op2) | (with_reducible apply x_op1) | (with_reducible apply x_callB) | (with_reducible apply x_tup) | (with_reducible apply x_lst) | (with_reducible apply x_met) | (with_reducible apply x_call) | (with_reducible apply y_par2) | (with_reducible apply y_par3) | (with_reducible apply y_unp) | (with_reducible apply y_for) | (with_reducible apply x_rng1) | (with_reducible apply x_rng2) | (with_reducible apply x_seq) | (with_reducible apply x_enum) | (with_reducible apply x_still) | (with_reducible apply x_rgL1) | (with_reducible exact g1) | (with_reducible exact g5) | (with_reducible exact g6) | (with_reducible exact decide_eq_true (by omega)) | (with_reducible exact decide_eq_false (by omega)) | (with_reducible exact f_append (by omega)) | (with_reducible exact small_le (by omega)) | (with_reducible exact f_rng1 (big_of (by omega) (by omega))) | (exact ⟨.inl rfl, rfl⟩) | (exact (rfl : (_ : Bool) = true)) | (exact (rfl : (_ : Bool) = false)) | (rfl))
    · rw [hy7]
      rfl
  · apply y_end
    · repeat' (first | (with_reducible assumption) | (with_reducible exact x_dat) | (with_reducible exact x_nil) | (with_reducible exact y_skip) | (with_reducible exact x_retB) | (with_reducible refine x_val ?_; rfl) | (with_reducible refine x_own ?_; rfl) | (with_reducible refine x_io ?_; rfl) | (with_reducible apply x_cons) | (with_reducible apply z_T) | (with_reducible apply z_F) | (with_reducible apply y_seq) | (with_reducible apply y_set) | (with_reducible apply y_expr) | (with_reducible apply y_ret) | (with_reducible apply y_if) | (with_reducible apply x_if) | (with_reducible apply x_and) | (with_reducible apply x_or) | (with_reducible apply x_not) | (with_reducible apply x_test) | (with_reducible apply x_op2) | (with_reducible apply x_op1) | (with_reducible apply x_callB) | (with_reducible apply x_tup) | (with_reducible apply x_lst) | (with_reducible apply x_met) | (with_reducible apply x_call) | (with_reducible apply y_par2) | (with_reducible apply y_par3) | (with_reducible apply y_unp) | (with_reducible apply y_for) | (with_reducible apply x_rng1) | (with_reducible apply x_rng2) | (with_reducible apply x_seq) | (with_reducible apply x_enum) | (with_reducible apply x_still) | (with_reducible apply x_rgL1) | (with_reducible exact h1) | (with_reducible exact h5) | (with_reducible exact decide_eq_true (by omega)) | (with_reducible exact decide_eq_false (by omega)) | (with_reducible exact f_append (by omega)) | (with_reducible exact small_le (by omega)) | (with_reducible exact f_rng1 (big_of (by omega) (by omega))) | (exact ⟨.inl rfl, rfl⟩) | (exact (rfl : (_ : Bool) = true)) | (exact (rfl : (_ : Bool) = false)) | (rfl))
    · rfl
  · have q := feqI (k : Int) 1
    by_cases z : (k : Int) = 1
    · rw [decide_eq_true z] at q
      refine y_ifT (b := true) (e1 := lawE ns (.pot cs7 m7 t7) (iN k) (iN h) (iN r) y5 y6 y7 (some (.val (.str sm))) (some (.own (.lst (dueD fs hs ws)))) x10 (houD fs ws) (some (.val (.tuple hs))) x13 x14) ?_ rfl (y_set (heardK_ok D rfl rfl) rfl)
      repeat' (first | (with_reducible assumption) | (with_reducible exact x_dat) | (with_reducible exact x_nil) | (with_reducible exact y_skip) | (with_reducible exact x_retB) | (with_reducible refine x_val ?_; rfl) | (with_reducible refine x_own ?_; rfl) | (with_reducible refine x_io ?_; rfl) | (with_reducible apply x_cons) | (with_reducible apply z_T) | (with_reducible apply z_F) | (with_reducible apply y_seq) | (with_reducible apply y_set) | (with_reducible apply y_expr) | (with_reducible apply y_ret) | (with_reducible apply y_if) | (with_reducible apply x_if) | (with_reducible apply x_and) | (with_reducible apply x_or) | (with_reducible apply x_not) | (with_reducible apply x_test) | (with_reducible apply x_op2) | (with_reducible apply x_op1) | (with_reducible apply x_callB) | (with_reducible apply x_tup) | (with_reducible apply x_lst) | (with_reducible apply x_met) | (with_reducible apply x_call) | (with_reducible apply y_par2) | (with_reducible apply y_par3) | (with_reducible apply y_unp) | (with_reducible apply y_for) | (with_reducible apply x_rng1) | (with_reducible apply x_rng2) | (with_reducible apply x_seq) | (with_reducible apply x_enum) | (with_reducible apply x_still) | (with_reducible apply x_rgL1) | (with_reducible exact q) | (with_reducible exact decide_eq_true (by omega)) | (with_reducible exact decide_eq_false (by omega)) | (with_reducible exact f_append (by omega)) | (with_reducible exact small_le (by omega)) | (with_reducible exact f_rng1 (big_of (by omega) (by omega))) | (exact ⟨.inl rfl, rfl⟩) | (exact (rfl : (_ : Bool) = true)) | (exact (rfl : (_ : Bool) = false)) | (rfl))
    · rw [decide_eq_false z] at q
      refine y_ifF (b := false) (e1 := lawE ns (.pot cs7 m7 t7) (iN k) (iN h) (iN r) y5 y6 y7 (some (.val (.str sm))) (some (.own (.lst (dueD fs hs ws)))) x10 (houD fs ws) (some (.val (.tuple hs))) x13 x14) ?_ rfl (y_set (heard_ok D rfl rfl) rfl)
      repeat' (first | (with_reducible assumption) | (with_reducible exact x_dat) | (with_reducible exact x_nil) | (with_reducible exact y_skip) | (with_reducible exact x_retB) | (with_reducible refine x_val ?_; rfl) | (with_reducible refine x_own ?_; rfl) | (with_reducible refine x_io ?_; rfl) | (with_reducible apply x_cons) | (with_reducible apply z_T) | (with_reducible apply z_F) | (with_reducible apply y_seq) | (with_reducible apply y_set) | (with_reducible apply y_expr) | (with_reducible apply y_ret) | (with_reducible apply y_if) | (with_reducible apply x_if) | (with_reducible apply x_and) | (with_reducible apply x_or) | (with_reducible apply x_not) | (with_reducible apply x_test) | (with_reducible apply x_op2) | (with_reducible apply x_op1) | (with_reducible apply x_callB) | (with_reducible apply x_tup) | (with_reducible apply x_lst) | (with_reducible apply x_met) | (with_reducible apply x_call) | (with_reducible apply y_par2) | (with_reducible apply y_par3) | (with_reducible apply y_unp) | (with_reducible apply y_for) | (with_reducible apply x_rng1) | (with_reducible apply x_rng2) | (with_reducible apply x_seq) | (with_reducible apply x_enum) | (with_reducible apply x_still) | (with_reducible apply x_rgL1) | (with_reducible exact q) | (with_reducible exact decide_eq_true (by omega)) | (with_reducible exact decide_eq_false (by omega)) | (with_reducible exact f_append (by omega)) | (with_reducible exact small_le (by omega)) | (with_reducible exact f_rng1 (big_of (by omega) (by omega))) | (exact ⟨.inl rfl, rfl⟩) | (exact (rfl : (_ : Bool) = true)) | (exact (rfl : (_ : Bool) = false)) | (rfl))
  · refine y_ifF (b := false) (e1 := lawE ns (.pot cs7 m7 t7) (iN k) (iN h) (iN r) y5 y6 y7 (some (.val (.str sm))) (some (.own (.lst (dueD fs hs ws)))) (some (.own (.lst (dueD fs hs ws)))) (houD fs ws) (some (.val (.tuple hs))) x13 x14) ?_ rfl rfl
    repeat' (first | (with_reducible assumption) | (with_reducible exact x_dat) | (with_reducible exact x_nil) | (with_reducible exact y_skip) | (with_reducible exact x_retB) | (with_reducible refine x_val ?_; rfl) | (with_reducible refine x_own ?_; rfl) | (with_reducible refine x_io ?_; rfl) | (with_reducible apply x_cons) | (with_reducible apply z_T) | (with_reducible apply z_F) | (with_reducible apply y_seq) | (with_reducible apply y_set) | (with_reducible apply y_expr) | (with_reducible apply y_ret) | (with_reducible apply y_if) | (with_reducible apply x_if) | (with_reducible apply x_and) | (with_reducible apply x_or) | (with_reducible apply x_not) | (with_reducible apply x_test) | (with_reducible apply x_op2) | (with_reducible apply x_op1) | (with_reducible apply x_callB) | (with_reducible apply x_tup) | (with_reducible apply x_lst) | (with_reducible apply x_met) | (with_reducible apply x_call) | (with_reducible apply y_par2) | (with_reducible apply y_par3) | (with_reducible apply y_unp) | (with_reducible apply y_for) | (with_reducible apply x_rng1) | (with_reducible apply x_rng2) | (with_reducible apply x_seq) | (with_reducible apply x_enum) | (with_reducible apply x_still) | (with_reducible apply x_rgL1) | (with_reducible exact h1) | (with_reducible exact h2) | (with_reducible exact h3) | (with_reducible exact h4) | (with_reducible exact decide_eq_true (by omega)) | (with_reducible exact decide_eq_false (by omega)) | (with_reducible exact f_append (by omega)) | (with_reducible exact small_le (by omega)) | (with_reducible exact f_rng1 (big_of (by omega) (by omega))) | (exact ⟨.inl rfl, rfl⟩) | (exact (rfl : (_ : Bool) = true)) | (exact (rfl : (_ : Bool) = false)) | (rfl))
  · have q := feqI (k : Int) 2
    by_cases z : (k : Int) = 2
    · rw [decide_eq_true z] at q
      have hd := heard_ok D (e := lawE ns (.pot cs7 m7 t7) (iN k) (iN h) (iN r) y5 y6 y7 (some (.val (.str sm))) (some (.own (.lst (dueD fs hs ws)))) (some (.own (.lst (dueD fs hs ws)))) (houD fs ws) (some (.val (.tuple hs))) x13 x14) (i := 11) (j := 12) rfl rfl
      refine y_ifF (b := false) (e1 := lawE ns (.pot cs7 m7 t7) (iN k) (iN h) (iN r) y5 y6 y7 (some (.val (.str sm))) (some (.own (.lst (dueD fs hs ws)))) (some (.own (.lst (dueD fs hs ws)))) (houD fs ws) (some (.val (.tuple hs))) x13 x14) ?_ rfl rfl
      repeat' (first | (with_reducible assumption) | (with_reducible exact x_dat) | (with_reducible exact x_nil) | (with_reducible exact y_skip) | (with_reducible exact x_retB) | (with_reducible refine x_val ?_; rfl) | (with_reducible refine x_own ?_; rfl) | (with_reducible refine x_io ?_; rfl) | (with_reducible apply x_cons) | (with_reducible apply z_T) | (with_reducible apply z_F) | (with_reducible apply y_seq) | (with_reducible apply y_set) | (with_reducible apply y_expr) | (with_reducible apply y_ret) | (with_reducible apply y_if) | (with_reducible apply x_if) | (with_reducible apply x_and) | (with_reducible apply x_or) | (with_reducible apply x_not) | (with_reducible apply x_test) | (with_reducible apply x_op2) | (with_reducible apply x_op1) | (with_reducible apply x_callB) | (with_reducible apply x_tup) | (with_reducible apply x_lst) | (with_reducible apply x_met) | (with_reducible apply x_call) | (with_reducible apply y_par2) | (with_reducible apply y_par3) | (with_reducible apply y_unp) | (with_reducible apply y_for) | (with_reducible apply x_rng1) | (with_reducible apply x_rng2) | (with_reducible apply x_seq) | (with_reducible apply x_enum) | (with_reducible apply x_still) | (with_reducible apply x_rgL1) | (with_reducible exact q) | (with_reducible exact h3) | (with_reducible exact h4) | ((with_reducible show mHeard _ _ = _); exact hd) | (with_reducible exact decide_eq_true (by omega)) | (with_reducible exact decide_eq_false (by omega)) | (with_reducible exact f_append (by omega)) | (with_reducible exact small_le (by omega)) | (with_reducible exact f_rng1 (big_of (by omega) (by omega))) | (exact ⟨.inl rfl, rfl⟩) | (exact (rfl : (_ : Bool) = true)) | (exact (rfl : (_ : Bool) = false)) | (rfl))
    · rw [decide_eq_false z] at q
      refine y_ifF (b := false) (e1 := lawE ns (.pot cs7 m7 t7) (iN k) (iN h) (iN r) y5 y6 y7 (some (.val (.str sm))) (some (.own (.lst (dueD fs hs ws)))) (some (.own (.lst (dueD fs hs ws)))) (houD fs ws) (some (.val (.tuple hs))) x13 x14) ?_ rfl rfl
      repeat' (first | (with_reducible assumption) | (with_reducible exact x_dat) | (with_reducible exact x_nil) | (with_reducible exact y_skip) | (with_reducible exact x_retB) | (with_reducible refine x_val ?_; rfl) | (with_reducible refine x_own ?_; rfl) | (with_reducible refine x_io ?_; rfl) | (with_reducible apply x_cons) | (with_reducible apply z_T) | (with_reducible apply z_F) | (with_reducible apply y_seq) | (with_reducible apply y_set) | (with_reducible apply y_expr) | (with_reducible apply y_ret) | (with_reducible apply y_if) | (with_reducible apply x_if) | (with_reducible apply x_and) | (with_reducible apply x_or) | (with_reducible apply x_not) | (with_reducible apply x_test) | (with_reducible apply x_op2) | (with_reducible apply x_op1) | (with_reducible apply x_callB) | (with_reducible apply x_tup) | (with_reducible apply x_lst) | (with_reducible apply x_met) | (with_reducible apply x_call) | (with_reducible apply y_par2) | (with_reducible apply y_par3) | (with_reducible apply y_unp) | (with_reducible apply y_for) | (with_reducible apply x_rng1) | (with_reducible apply x_rng2) | (with_reducible apply x_seq) | (with_reducible apply x_enum) | (with_reducible apply x_still) | (with_reducible apply x_rgL1) | (with_reducible exact q) | (with_reducible exact decide_eq_true (by omega)) | (with_reducible exact decide_eq_false (by omega)) | (with_reducible exact f_append (by omega)) | (with_reducible exact small_le (by omega)) | (with_reducible exact f_rng1 (big_of (by omega) (by omega))) | (exact ⟨.inl rfl, rfl⟩) | (exact (rfl : (_ : Bool) = true)) | (exact (rfl : (_ : Bool) = false)) | (rfl))
end
theorem law_ok (ns : List Int) (hn : ns.length ≤ 63) : (mlaw (lawEnv 14 ns)).wp lawP := by
  obtain ⟨cs, m, g1, g2⟩ := pot_ok ns hn
  obtain ⟨_, h1, cs', m', t', y2, y3, y4, y5, y6, y7, y8, y9, y10, y11, y12, rfl, h2⟩ := for_eq (g := gN 2) (b := blaw_5)
    (fun i e => ∃ cs m t y2 y3 y4 y5 y6 y7 y8 y9 y10 y11 y12, e = lawE ns (.pot cs m t) y2 y3 y4 y5 y6 y7 y8 y9 y10 y11 y12 none none ∧ cs.length ≤ 63)
    (rgs 0 4) (lawE ns (.pot cs m 0) none none none none none none none none none none none none none) 0 ⟨cs, m, 0, none, none, none, none, none, none, none, none, none, none, none, rfl, g2⟩ (by
      rintro i d e hi ⟨cs, m, t, y2, y3, y4, y5, y6, y7, y8, y9, y10, y11, y12, rfl, q⟩
      obtain ⟨rfl, hlt⟩ := rgs_at hi
      obtain ⟨cs', m', t', z3, z4, z5, z6, z7, z8, z9, z10, z11, z12, p1, p2⟩ := law_turn ns y3 y4 y5 y6 y7 y8 y9 y10 y11 y12 none none cs m t i q (.inl rfl) (.inl rfl)
      exact ⟨lawE ns (.pot cs m t) (iN i) y3 y4 y5 y6 y7 y8 y9 y10 y11 y12 none none, _, rfl, p1, cs', m', t', iN i, z3, z4, z5, z6, z7, z8, z9, z10, z11, z12, rfl, p2⟩)
  have fin : mlaw (lawEnv 14 ns) = .rt (.tmp (.val (.bool true))) (lawE ns (.pot cs' m' t') y2 y3 y4 y5 y6 y7 y8 y9 y10 y11 y12 none none) := by
    have hl : lawEnv 14 ns = [some (.io (.scr ns)), none, none, none, none, none, none, none, none, none, none, none, none, none, none] := rfl
    rw [hl]
    unfold mlaw
    refine y_seq (e1 := lawE ns (.pot cs m 0) none none none none none none none none none none none none none) ?_ (y_seq (y_for (x_rng1 (x_cons x_dat x_nil) rfl (f_rngN (n := 4) (by omega))) h1) rfl)
    apply y_end
    · repeat' (first | (with_reducible assumption) | (with_reducible exact x_dat) | (with_reducible exact x_nil) | (with_reducible exact y_skip) | (with_reducible exact x_retB) | (with_reducible refine x_val ?_; rfl) | (with_reducible refine x_own ?_; rfl) | (with_reducible refine x_io ?_; rfl) | (with_reducible apply x_cons) | (with_reducible apply z_T) | (with_reducible apply z_F) | (with_reducible apply y_seq) | (with_reducible apply y_set) | (with_reducible apply y_expr) | (with_reducible apply y_ret) | (with_reducible apply y_if) | (with_reducible apply x_if) | (with_reducible apply x_and) | (with_reducible apply x_or) | (with_reducible apply x_not) | (with_reducible apply x_test) | (with_reducible apply x_op2) | (with_reducible apply x_op1) | (with_reducible apply x_callB) | (with_reducible apply x_tup) | (with_reducible apply x_lst) | (with_reducible apply x_met) | (with_reducible apply x_call) | (with_reducible apply y_par2) | (with_reducible apply y_par3) | (with_reducible apply y_unp) | (with_reducible apply y_for) | (with_reducible apply x_rng1) | (with_reducible apply x_rng2) | (with_reducible apply x_seq) | (with_reducible apply x_enum) | (with_reducible apply x_still) | (with_reducible apply x_rgL1) | (with_reducible exact g1) | (with_reducible exact decide_eq_true (by omega)) | (with_reducible exact decide_eq_false (by omega)) | (with_reducible exact f_append (by omega)) | (with_reducible exact small_le (by omega)) | (with_reducible exact f_rng1 (big_of (by omega) (by omega))) | (exact ⟨.inl rfl, rfl⟩) | (exact (rfl : (_ : Bool) = true)) | (exact (rfl : (_ : Bool) = false)) | (rfl))
    · rfl
  rw [fin]
  exact (rfl : vw (lawE ns (.pot cs' m' t') y2 y3 y4 y5 y6 y7 y8 y9 y10 y11 y12 none none) (.tmp (.val (.bool true))) = some (.bool true))
end KD


set_option pp.maxSteps 300
set_option pp.deepTerms false
namespace KD
open PySem PySem.Spec L2 VL
open PyProof.Rows hiding St
/-! ### what the top has written -/
theorem tabIn_mk {K : PySem.W.Frag} {x : Str} {f c Tt : Addr} {oc ocT : Value} {od odT : Option Addr} {osl slT : Array (Option Value)} {fd : FuncData} {vs : Array Value} (h1 : PySem.W.nsIn K mainGlobals x = some (some (.ref f))) (h2 : K.lookup f = some ⟨oc, od, .func fd, osl⟩) (h3 : fd.code = .ref c) (h4 : K.lookup c = some ⟨ocT, odT, .fields vs, slT⟩) (h5 : vs[11]? = some (.ref Tt)) : PySem.W.tabIn K x = some (c, Tt) := by
  unfold PySem.W.tabIn
  rw [h1]
  simp only
  rw [h2]
  simp only
  rw [h3]
  simp only
  rw [h4]
  simp only
  rw [h5]
theorem all_mk {P : Program} {w : World} {K : PySem.W.Frag} {h : Heap} {mg : Str → Option Value} {fa : Addr} (X : K.In h) (G : h.Ns mainGlobals mg) (hfa : mg ("law" : Str) = some (.ref fa))
    {f0 : Addr} {od0 an0 : Option Addr} {sl0 : Array (Option Value)} {oc0 kV0 dc0 pm0 cd0 ct0 : Value} {f1 : Addr} {od1 an1 : Option Addr} {sl1 : Array (Option Value)} {oc1 kV1 dc1 pm1 cd1 ct1 : Value} {f2 : Addr} {od2 an2 : Option Addr} {sl2 : Array (Option Value)} {oc2 kV2 dc2 pm2 cd2 ct2 : Value} {f3 : Addr} {od3 an3 : Option Addr} {sl3 : Array (Option Value)} {oc3 kV3 dc3 pm3 cd3 ct3 : Value} {f4 : Addr} {od4 an4 : Option Addr} {sl4 : Array (Option Value)} {oc4 kV4 dc4 pm4 cd4 ct4 : Value} {f5 : Addr} {od5 an5 : Option Addr} {sl5 : Array (Option Value)} {oc5 kV5 dc5 pm5 cd5 ct5 : Value} {f6 : Addr} {od6 an6 : Option Addr} {sl6 : Array (Option Value)} {oc6 kV6 dc6 pm6 cd6 ct6 : Value} {f7 : Addr} {od7 an7 : Option Addr} {sl7 : Array (Option Value)} {oc7 kV7 dc7 pm7 cd7 ct7 : Value} {f8 : Addr} {od8 an8 : Option Addr} {sl8 : Array (Option Value)} {oc8 kV8 dc8 pm8 cd8 ct8 : Value} {f9 : Addr} {od9 an9 : Option Addr} {sl9 : Array (Option Value)} {oc9 kV9 dc9 pm9 cd9 ct9 : Value} {f10 : Addr} {od10 an10 : Option Addr} {sl10 : Array (Option Value)} {oc10 kV10 dc10 pm10 ct10 : Value} {c Tt : Addr} {ocT : Value} {odT : Option Addr} {vsT : Array Value} {slT : Array (Option Value)} {t_c_MAX_ROOMS : Nat} {t_c_MAX_STEPS : Nat} {C_e_Unfit : Addr} {U Wy TM BR BH : Addr}
    (a0 : PySem.W.nsIn K mainGlobals ("gated" : Str) = some (some (.ref f0)))
    (l0 : K.lookup f0 = some ⟨oc0, od0, .func (PySem.W.fnOf ("gated" : Str) ("gated" : Str) (defArgs sgated) (defBody sgated) (defScope sgated) .none kV0 dc0 pm0 an0 cd0 ct0), sl0⟩)
    (q0 : PySem.W.codeIn K cd0 ("gated" : Str) = true)
    (p0 : PySem.W.keepIn K (.ref f0) = true)
    (a1 : PySem.W.nsIn K mainGlobals ("_law_pot" : Str) = some (some (.ref f1)))
    (l1 : K.lookup f1 = some ⟨oc1, od1, .func (PySem.W.fnOf ("_law_pot" : Str) ("_law_pot" : Str) (defArgs s_law_pot) (defBody s_law_pot) (defScope s_law_pot) .none kV1 dc1 pm1 an1 cd1 ct1), sl1⟩)
    (q1 : PySem.W.codeIn K cd1 ("_law_pot" : Str) = true)
    (p1 : PySem.W.keepIn K (.ref f1) = true)
    (a2 : PySem.W.nsIn K mainGlobals ("_law_of" : Str) = some (some (.ref f2)))
    (l2 : K.lookup f2 = some ⟨oc2, od2, .func (PySem.W.fnOf ("_law_of" : Str) ("_law_of" : Str) (defArgs s_law_of) (defBody s_law_of) (defScope s_law_of) .none kV2 dc2 pm2 an2 cd2 ct2), sl2⟩)
    (q2 : PySem.W.codeIn K cd2 ("_law_of" : Str) = true)
    (p2 : PySem.W.keepIn K (.ref f2) = true)
    (a3 : PySem.W.nsIn K mainGlobals ("_law_one" : Str) = some (some (.ref f3)))
    (l3 : K.lookup f3 = some ⟨oc3, od3, .func (PySem.W.fnOf ("_law_one" : Str) ("_law_one" : Str) (defArgs s_law_one) (defBody s_law_one) (defScope s_law_one) .none kV3 dc3 pm3 an3 cd3 ct3), sl3⟩)
    (q3 : PySem.W.codeIn K cd3 ("_law_one" : Str) = true)
    (p3 : PySem.W.keepIn K (.ref f3) = true)
    (a4 : PySem.W.nsIn K mainGlobals ("_law_mixed" : Str) = some (some (.ref f4)))
    (l4 : K.lookup f4 = some ⟨oc4, od4, .func (PySem.W.fnOf ("_law_mixed" : Str) ("_law_mixed" : Str) (defArgs s_law_mixed) (defBody s_law_mixed) (defScope s_law_mixed) .none kV4 dc4 pm4 an4 cd4 ct4), sl4⟩)
    (q4 : PySem.W.codeIn K cd4 ("_law_mixed" : Str) = true)
    (p4 : PySem.W.keepIn K (.ref f4) = true)
    (a5 : PySem.W.nsIn K mainGlobals ("_law_way" : Str) = some (some (.ref f5)))
    (l5 : K.lookup f5 = some ⟨oc5, od5, .func (PySem.W.fnOf ("_law_way" : Str) ("_law_way" : Str) (defArgs s_law_way) (defBody s_law_way) (defScope s_law_way) .none kV5 dc5 pm5 an5 cd5 ct5), sl5⟩)
    (q5 : PySem.W.codeIn K cd5 ("_law_way" : Str) = true)
    (p5 : PySem.W.keepIn K (.ref f5) = true)
    (a6 : PySem.W.nsIn K mainGlobals ("_law_door" : Str) = some (some (.ref f6)))
    (l6 : K.lookup f6 = some ⟨oc6, od6, .func (PySem.W.fnOf ("_law_door" : Str) ("_law_door" : Str) (defArgs s_law_door) (defBody s_law_door) (defScope s_law_door) .none kV6 dc6 pm6 an6 cd6 ct6), sl6⟩)
    (q6 : PySem.W.codeIn K cd6 ("_law_door" : Str) = true)
    (p6 : PySem.W.keepIn K (.ref f6) = true)
    (a7 : PySem.W.nsIn K mainGlobals ("_law_house" : Str) = some (some (.ref f7)))
    (l7 : K.lookup f7 = some ⟨oc7, od7, .func (PySem.W.fnOf ("_law_house" : Str) ("_law_house" : Str) (defArgs s_law_house) (defBody s_law_house) (defScope s_law_house) .none kV7 dc7 pm7 an7 cd7 ct7), sl7⟩)
    (q7 : PySem.W.codeIn K cd7 ("_law_house" : Str) = true)
    (p7 : PySem.W.keepIn K (.ref f7) = true)
    (a8 : PySem.W.nsIn K mainGlobals ("_law_gated" : Str) = some (some (.ref f8)))
    (l8 : K.lookup f8 = some ⟨oc8, od8, .func (PySem.W.fnOf ("_law_gated" : Str) ("_law_gated" : Str) (defArgs s_law_gated) (defBody s_law_gated) (defScope s_law_gated) .none kV8 dc8 pm8 an8 cd8 ct8), sl8⟩)
    (q8 : PySem.W.codeIn K cd8 ("_law_gated" : Str) = true)
    (p8 : PySem.W.keepIn K (.ref f8) = true)
    (a9 : PySem.W.nsIn K mainGlobals ("_law_heard" : Str) = some (some (.ref f9)))
    (l9 : K.lookup f9 = some ⟨oc9, od9, .func (PySem.W.fnOf ("_law_heard" : Str) ("_law_heard" : Str) (defArgs s_law_heard) (defBody s_law_heard) (defScope s_law_heard) .none kV9 dc9 pm9 an9 cd9 ct9), sl9⟩)
    (q9 : PySem.W.codeIn K cd9 ("_law_heard" : Str) = true)
    (p9 : PySem.W.keepIn K (.ref f9) = true)
    (a10 : PySem.W.nsIn K mainGlobals ("law" : Str) = some (some (.ref f10)))
    (l10 : K.lookup f10 = some ⟨oc10, od10, .func (PySem.W.fnOf ("law" : Str) ("law" : Str) (defArgs slaw) (defBody slaw) (defScope slaw) .none kV10 dc10 pm10 an10 (.ref c) ct10), sl10⟩)
    (q10 : PySem.W.codeIn K (.ref c) ("law" : Str) = true)
    (p10 : PySem.W.keepIn K (.ref f10) = true)
    (lc : K.lookup c = some ⟨ocT, odT, .fields vsT, slT⟩)
    (vt : vsT[11]? = some (.ref Tt))
    (tn : K.lookup Tt = none)
    (z_b_len : PySem.W.nsIn K mainGlobals ("len" : Str) = some none)
    (z_b_range : PySem.W.nsIn K mainGlobals ("range" : Str) = some none)
    (z_b_abs : PySem.W.nsIn K mainGlobals ("abs" : Str) = some none)
    (z_b_int : PySem.W.nsIn K mainGlobals ("int" : Str) = some none)
    (z_b_list : PySem.W.nsIn K mainGlobals ("list" : Str) = some none)
    (z_b_tuple : PySem.W.nsIn K mainGlobals ("tuple" : Str) = some none)
    (z_b_enumerate : PySem.W.nsIn K mainGlobals ("enumerate" : Str) = some none)
    (z_b_repr : PySem.W.nsIn K mainGlobals ("repr" : Str) = some none)
    (z_c_MAX_ROOMS : PySem.W.nsIn K mainGlobals ("MAX_ROOMS" : Str) = some (some (.int 6 t_c_MAX_ROOMS)))
    (z_c_MAX_STEPS : PySem.W.nsIn K mainGlobals ("MAX_STEPS" : Str) = some (some (.int 24 t_c_MAX_STEPS)))
    (g_e_Unfit : PySem.W.nsIn K mainGlobals ("Unfit" : Str) = some (some (.ref C_e_Unfit)))
    (x_e_Unfit : PySem.W.excIn K C_e_Unfit [.type "ValueError", .type "Exception", .type "BaseException", .type "object"] "ValueError.__new__" = true)
    (k_e_Unfit : PySem.W.keepIn K (.ref C_e_Unfit) = true)
    (s_e_Unfit : PySem.W.subIn K (.ref C_e_Unfit) (.type "BaseException") = some true)
    (t_e_Unfit : PySem.W.typeIn K (.ref C_e_Unfit) = some (.type "type"))
    (h_U : PySem.W.nsIn K mainGlobals ("Unfit" : Str) = some (some (.ref U)))
    (h_Wy : PySem.W.nsIn K mainGlobals ("WayError" : Str) = some (some (.ref Wy)))
    (h_TM : PySem.W.nsIn K mainGlobals ("TooMany" : Str) = some (some (.ref TM)))
    (h_BR : PySem.W.nsIn K mainGlobals ("BadRun" : Str) = some (some (.ref BR)))
    (h_BH : PySem.W.nsIn K mainGlobals ("BadHouse" : Str) = some (some (.ref BH)))
    (h_is : PySem.W.nsIn K mainGlobals ("isinstance" : Str) = some none)
    (xU : PySem.W.exmOne K (.ref U) (.ref U) = some true)
    (kW : PySem.W.kitOne K (.ref U) (.ref Wy) = some true)
    (kA : PySem.W.kitAny K (.ref U) [.ref TM, .ref BR, .ref BH] = some false)
    (e1 : PySem.W.findIn K (.ref U) "__getattribute__" = some (some (.builtin "BaseException.__getattribute__")))
    (e2 : PySem.W.findIn K (.ref U) "__getattr__" = some none)
    (e3 : PySem.W.subIn K (.ref U) (.type "BaseException") = some true)
    (e4 : PySem.W.hasDictIn K U = true)
    (e5 : PySem.W.findIn K (.ref U) "__class__" = some (some (.builtin "object.__class__")))
    (e6 : PySem.W.specialIn K (.builtin "object.__class__") "__get__" = some (some (.builtin "getset_descriptor.__get__")))
    (e7 : PySem.W.takesIn K (.builtin "object.__class__") = some true)
    (e8 : PySem.W.mroIn K U (.type "object") = some true)
    : ∃ (c T : Addr), PySem.W.tabIn K ("law" : Str) = some (c, T) ∧ K.lookup T = none ∧
      ∀ (base : Heap) (s : Shared) (H : Hp) (a : Addr) (ns : List Int), ns.length ≤ 63 → K.In s.heap → s.heap.Ns mainGlobals mg → At0 K H a T ns → Env0 P w K mg base callerA [] s H → LamX.TabB base mg c T →
        codeAny (model P w) callerA (.call (.ref fa) ⟨[.ref a], []⟩) (CR (L2.CX P w) [] P w H s (fun v _ => v = .bl true) fun _ _ _ => False) s := by
  have e := hfa.symm.trans (PySem.W.mg_of X G a10)
  cases e
  have T0 : Tb K mg := ⟨PySem.W.mg_none_of X G z_b_len, PySem.W.mg_none_of X G z_b_range, PySem.W.mg_none_of X G z_b_abs, PySem.W.mg_none_of X G z_b_int, PySem.W.mg_none_of X G z_b_list, PySem.W.mg_none_of X G z_b_tuple, PySem.W.mg_none_of X G z_b_enumerate, PySem.W.mg_none_of X G z_b_repr, ⟨t_c_MAX_ROOMS, PySem.W.mg_of X G z_c_MAX_ROOMS⟩, ⟨t_c_MAX_STEPS, PySem.W.mg_of X G z_c_MAX_STEPS⟩, ⟨C_e_Unfit, PySem.W.mg_of X G g_e_Unfit, x_e_Unfit, k_e_Unfit, s_e_Unfit, t_e_Unfit⟩⟩
  refine ⟨c, Tt, tabIn_mk a10 l10 rfl lc vt, tn, fun base s H a ns hl _ _ A0 E0 TB => ?_⟩
  have F0 := fun_mk (st := sgated) l0 q0 p0
  have F1 := fun_mk (st := s_law_pot) l1 q1 p1
  have F2 := fun_mk (st := s_law_of) l2 q2 p2
  have F3 := fun_mk (st := s_law_one) l3 q3 p3
  have F4 := fun_mk (st := s_law_mixed) l4 q4 p4
  have F5 := fun_mk (st := s_law_way) l5 q5 p5
  have F6 := fun_mk (st := s_law_door) l6 q6 p6
  have F7 := fun_mk (st := s_law_house) l7 q7 p7
  have F8 := fun_mk (st := s_law_gated) l8 q8 p8
  have F9 := fun_mk (st := s_law_heard) l9 q9 p9
  have F10 := fun_mk (st := slaw) l10 q10 p10
  have b0 := F0.binds (ps := [("house" : Str), ("hands" : Str)]) fun _ _ _ _ _ _ us hl => match us, hl with | [_, _], _ => rfl
  have cgated : Cal P w K mg base 1 ("gated" : Str) [("house" : Str), ("hands" : Str)] fgated := ⟨_, _, okgated F0 T0, PySem.W.mg_of X G a0, p0, b0⟩
  have b1 := F1.binds (ps := [("script" : Str)]) fun _ _ _ _ _ _ us hl => match us, hl with | [_], _ => rfl
  have c_law_pot : Cal P w K mg base 1 ("_law_pot" : Str) [("script" : Str)] f_law_pot := ⟨_, _, ok_law_pot F1 T0, PySem.W.mg_of X G a1, p1, b1⟩
  have b2 := F2.binds (ps := [("pot" : Str), ("many" : Str)]) fun _ _ _ _ _ _ us hl => match us, hl with | [_, _], _ => rfl
  have c_law_of : Cal P w K mg base 1 ("_law_of" : Str) [("pot" : Str), ("many" : Str)] f_law_of := ⟨_, _, ok_law_of F2 T0, PySem.W.mg_of X G a2, p2, b2⟩
  have b3 := F3.binds (ps := [("pot" : Str), ("items" : Str)]) fun _ _ _ _ _ _ us hl => match us, hl with | [_, _], _ => rfl
  have c_law_one : Cal P w K mg base 2 ("_law_one" : Str) [("pot" : Str), ("items" : Str)] f_law_one := ⟨_, _, ok_law_one F3 T0 c_law_of, PySem.W.mg_of X G a3, p3, b3⟩
  have b4 := F4.binds (ps := [("pot" : Str), ("items" : Str)]) fun _ _ _ _ _ _ us hl => match us, hl with | [_, _], _ => rfl
  have c_law_mixed : Cal P w K mg base 2 ("_law_mixed" : Str) [("pot" : Str), ("items" : Str)] f_law_mixed := ⟨_, _, ok_law_mixed F4 T0 c_law_of, PySem.W.mg_of X G a4, p4, b4⟩
  have b5 := F5.binds (ps := [("pot" : Str), ("rooms" : Str), ("steps" : Str), ("is_rising" : Str)]) fun _ _ _ _ _ _ us hl => match us, hl with | [_, _, _, _], _ => rfl
  have c_law_way : Cal P w K mg base 3 ("_law_way" : Str) [("pot" : Str), ("rooms" : Str), ("steps" : Str), ("is_rising" : Str)] f_law_way := ⟨_, _, ok_law_way F5 T0 c_law_of c_law_one, PySem.W.mg_of X G a5, p5, b5⟩
  have b6 := F6.binds (ps := [("pot" : Str), ("many" : Str), ("is_tame" : Str)]) fun _ _ _ _ _ _ us hl => match us, hl with | [_, _, _], _ => rfl
  have c_law_door : Cal P w K mg base 3 ("_law_door" : Str) [("pot" : Str), ("many" : Str), ("is_tame" : Str)] f_law_door := ⟨_, _, ok_law_door F6 T0 c_law_mixed c_law_of c_law_one, PySem.W.mg_of X G a6, p6, b6⟩
  have b7 := F7.binds (ps := [("pot" : Str), ("hands" : Str), ("rooms" : Str), ("steps" : Str), ("kinds" : Str)]) fun _ _ _ _ _ _ us hl => match us, hl with | [_, _, _, _, _], _ => rfl
  have c_law_house : Cal P w K mg base 4 ("_law_house" : Str) [("pot" : Str), ("hands" : Str), ("rooms" : Str), ("steps" : Str), ("kinds" : Str)] f_law_house := ⟨_, _, ok_law_house F7 T0 c_law_door c_law_of c_law_way, PySem.W.mg_of X G a7, p7, b7⟩
  have b8 := F8.binds (ps := [("house" : Str), ("hands" : Str)]) fun _ _ _ _ _ _ us hl => match us, hl with | [_, _], _ => rfl
  have c_law_gated : Cal P w K mg base 1 ("_law_gated" : Str) [("house" : Str), ("hands" : Str)] f_law_gated := ⟨_, _, ok_law_gated F8 T0, PySem.W.mg_of X G a8, p8, b8⟩
  have kgated_10 : CalK P w K mg base 1 ("gated" : Str) [("house" : Str), ("hands" : Str)] [("hands" : Str), ("house" : Str)] [1, 0] fgated := ⟨_, _, okgated F0 T0, PySem.W.mg_of X G a0, p0, fun s ws hl => match ws, hl with | [_, _], _ => .of_eq rfl⟩
  have b9 := F9.binds (ps := [("call" : Str)]) fun _ _ _ _ _ _ us hl => match us, hl with | [_], _ => rfl
  have D : Hd K mg U Wy TM BR BH := ⟨PySem.W.mg_of X G h_U, PySem.W.mg_of X G h_Wy, PySem.W.mg_of X G h_TM, PySem.W.mg_of X G h_BR, PySem.W.mg_of X G h_BH, PySem.W.mg_none_of X G h_is, xU, kW, kA, ⟨e1, e2, e3, e4, e5, e6, e7, e8⟩⟩
  exact VL.law_call (N := Nlaw) (k := 4) (n := 14) (m := mlaw) (q0 := fun cdv => (envOfC ("law" : Str) (defScope slaw) s.heap.objs.size fa cdv).qual ++ "<lambda>") F10 sclaw rfl ⟨rfl, by decide, by decide⟩ (.of_eq rfl) rfl A0 E0 TB
    (fun cdv hcv hr => ok_law_law T0 A0 TB hcv hr D F9 b9 (PySem.W.mg_of X G a9) c_law_gated c_law_house c_law_of c_law_one c_law_pot c_law_way cgated kgated_10) (law_ok ns hl)
end KD
open PySem PySem.W PyProof.Rows
set_option maxHeartbeats 0 in
theorem PySem.Challenge.cw_roomways_k67_whole_houses_with_a_gate_holds : PySem.Challenge.rw_roomways_k67_whole_houses_with_a_gate.Holds := by
  w_on; o_law; k_head; (case hw => w_witness2)
  k_fill
  refine VL.walk_law (l := PySem.Challenge.rw_roomways_k67_whole_houses_with_a_gate) (n := 63) rfl (by decide) (by kernel_rfl) (fun w h Y => PySem.W.km_in_of Y) rfl (by kernel_rfl) ?F
  case F =>
    intro w mg fa h KX G hmg
    refine' KD.all_mk KX G hmg ?a0 ?l0 ?q0 ?p0 ?a1 ?l1 ?q1 ?p1 ?a2 ?l2 ?q2 ?p2 ?a3 ?l3 ?q3 ?p3 ?a4 ?l4 ?q4 ?p4 ?a5 ?l5 ?q5 ?p5 ?a6 ?l6 ?q6 ?p6 ?a7 ?l7 ?q7 ?p7 ?a8 ?l8 ?q8 ?p8 ?a9 ?l9 ?q9 ?p9 ?a10 ?l10 ?q10 ?p10 ?lc ?vt ?tn ?z_b_len ?z_b_range ?z_b_abs ?z_b_int ?z_b_list ?z_b_tuple ?z_b_enumerate ?z_b_repr ?z_c_MAX_ROOMS ?z_c_MAX_STEPS ?g_e_Unfit ?x_e_Unfit ?k_e_Unfit ?s_e_Unfit ?t_e_Unfit ?h_U ?h_Wy ?h_TM ?h_BR ?h_BH ?h_is ?xU ?kW ?kA ?e1 ?e2 ?e3 ?e4 ?e5 ?e6 ?e7 ?e8
    (case a0 => k_is)
    (case l0 => k_is)
    (case q0 => k_is)
    (case p0 => k_is)
    (case a1 => k_is)
    (case l1 => k_is)
    (case q1 => k_is)
    (case p1 => k_is)
    (case a2 => k_is)
    (case l2 => k_is)
    (case q2 => k_is)
    (case p2 => k_is)
    (case a3 => k_is)
    (case l3 => k_is)
    (case q3 => k_is)
    (case p3 => k_is)
    (case a4 => k_is)
    (case l4 => k_is)
    (case q4 => k_is)
    (case p4 => k_is)
    (case a5 => k_is)
    (case l5 => k_is)
    (case q5 => k_is)
    (case p5 => k_is)
    (case a6 => k_is)
    (case l6 => k_is)
    (case q6 => k_is)
    (case p6 => k_is)
    (case a7 => k_is)
    (case l7 => k_is)
    (case q7 => k_is)
    (case p7 => k_is)
    (case a8 => k_is)
    (case l8 => k_is)
    (case q8 => k_is)
    (case p8 => k_is)
    (case a9 => k_is)
    (case l9 => k_is)
    (case q9 => k_is)
    (case p9 => k_is)
    (case a10 => k_is)
    (case l10 => k_is)
    (case q10 => k_is)
    (case p10 => k_is)
    (case lc => k_is)
    (case vt => rfl)
    (case tn => kernel_rfl)
    (case z_b_len => k_is)
    (case z_b_range => k_is)
    (case z_b_abs => k_is)
    (case z_b_int => k_is)
    (case z_b_list => k_is)
    (case z_b_tuple => k_is)
    (case z_b_enumerate => k_is)
    (case z_b_repr => k_is)
    (case z_c_MAX_ROOMS => k_is)
    (case z_c_MAX_STEPS => k_is)
    (case g_e_Unfit => k_is)
    (case x_e_Unfit => k_exc)
    (case k_e_Unfit => k_is)
    (case s_e_Unfit => k_is)
    (case t_e_Unfit => k_is)
    (case h_U => k_is)
    (case h_Wy => k_is)
    (case h_TM => k_is)
    (case h_BR => k_is)
    (case h_BH => k_is)
    (case h_is => k_is)
    (case xU => kernel_rfl)
    (case kW => kernel_rfl)
    (case kA => kernel_rfl)
    (case e1 => k_is)
    (case e2 => k_is)
    (case e3 => k_is)
    (case e4 => k_is)
    (case e5 => k_is)
    (case e6 => k_is)
    (case e7 => k_is)
    (case e8 => k_is)

