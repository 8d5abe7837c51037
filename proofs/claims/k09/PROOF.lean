import PyProof.Rows.All
import HandS.ForMost
import HandS.ForExc
import HandS.IsInst
import HandS.NoneIn
import HandS.Flow
import HandS.Conv
import HandS.Style
import HandS.Deep
import HandS.TupMul
import HandS.TupAny
import HandS.Defaults
import HandS.HeadHook2
import PySem.Challenge.RW_chipwhole_k09_files_keep_a_beginning
import HandS.More
import HandS.Head0
import HandS.Head1
import HandS.Head2
import HandS.HeadEnd
import HandS.HeadHook1
import KE.KStateDown
import Lean
set_option Elab.async false
set_option linter.all false
set_option maxRecDepth 100000
namespace DW
open PySem L2
/-! ## Data: tuples, lists and dicts that change no more by value; what may change is a loc -/
inductive D where
  | non | bl (b : Bool) | int (i : Int) | str (x : Str) | loc (n : Nat) | raw (v : V) | scr (ns : List Int)
  | lst (ds : List D) | tup (ds : List D) | ktup (ds : List D) | dic (t : Bool) (ks vs : List D)
  deriving Inhabited

mutual
def D.eq : D → D → Bool
  | .non, .non => true
  | .bl x, .bl y => x == y
  | .int x, .int y => x == y
  | .str x, .str y => decide (x = y)
  | .loc x, .loc y => x == y
  | .raw x, .raw y => decide (x = y)
  | .scr x, .scr y => x == y
  | .lst x, .lst y => D.eqs x y
  | .tup x, .tup y => D.eqs x y
  | .ktup x, .ktup y => D.eqs x y
  | .dic t x x', .dic u y y' => (t == u) && (D.eqs x y && D.eqs x' y')
  | _, _ => false
def D.eqs : List D → List D → Bool
  | [], [] => true
  | x :: xs, y :: ys => D.eq x y && D.eqs xs ys
  | _, _ => false
end
mutual
theorem D.eq_iff : ∀ a b : D, D.eq a b = true ↔ a = b := by
  intro a b
  cases a <;> cases b <;> simp only [D.eq, reduceCtorEq, Bool.false_eq_true, beq_iff_eq, decide_eq_true_eq, D.bl.injEq, D.int.injEq, D.str.injEq, D.loc.injEq, D.raw.injEq, D.scr.injEq, D.lst.injEq, D.tup.injEq, D.ktup.injEq, D.dic.injEq, Bool.and_eq_true]
  all_goals first | exact D.eqs_iff _ _ | exact and_congr Iff.rfl (and_congr (D.eqs_iff _ _) (D.eqs_iff _ _))
theorem D.eqs_iff : ∀ a b : List D, D.eqs a b = true ↔ a = b := by
  intro a b
  cases a <;> cases b <;> simp only [D.eqs, reduceCtorEq, Bool.false_eq_true, List.cons.injEq, Bool.and_eq_true]
  exact and_congr (D.eq_iff _ _) (D.eqs_iff _ _)
end
instance : DecidableEq D := fun a b => decidable_of_iff _ (D.eq_iff a b)
example : (D.lst [.int 3, .tup [.int 5]]) = D.lst [.int 3, .tup [.int 5]] := by decide

structure Fits (n : Nat) : Prop where
  le : n ≤ sizeLine

/-- what stands at a loc -/
inductive AO where
  | lst (ds : List D) | dic (t : Bool) (kvs : List (D × D)) | obj (cn : Nat) (vs : List D) | dead
abbrev A := List AO
abbrev DQ := D → A → Prop
abbrev En := List (Option D)

/-- the classes: where they stand, the names of their instances' attributes in order -/
structure Ci where
  ad : Nat → Addr
  nm : Nat → List Str

/-- the world: what is frozen, where the locs are, how many -/
structure Wo where
  G : Hp
  ι : Nat → Addr
  N : Nat
  /-- what nobody touches meanwhile -/
  Z : Hp

def keyD : Key → D
  | .inl i => .int i
  | .inr x => .str x
def keysD (ks : List Key) : D := .tup (ks.map keyD)

mutual
def RelD (K : PySem.W.Frag) (W : Wo) : D → V → Prop
  | .non, v => v = .non
  | .bl b, v => v = .bl b
  | .int i, v => v = .int i
  | .str x, v => v = .str x
  | .loc n, v => n < W.N ∧ v = .ref (W.ι n)
  | .raw w, v => v = w
  | .scr ns, v => ∃ a, v = .ref a ∧ SqL K W.G a (ns.map V.int)
  | .lst ds, v => ∃ a vs, v = .ref a ∧ W.G a = some (.lst vs) ∧ RelDs K W ds vs ∧ Fits vs.length
  | .tup ds, v => ∃ a vs, v = .ref a ∧ W.G a = some (.tup vs) ∧ RelDs K W ds vs ∧ Fits vs.length
  | .ktup ds, v => ∃ a vs, v = .ref a ∧ SqT K W.G a vs ∧ RelDs K W ds vs
  | .dic t ks vs, v => ∃ a, v = .ref a ∧ Fits vs.length ∧
      ((t = false ∧ ∃ kv : List (Key × V), W.G a = some (.dK kv) ∧ ks = kv.map (fun p => keyD p.1) ∧ RelDs K W vs (kv.map (·.2))) ∨
       (t = true ∧ ∃ kv : List (List Key × V), W.G a = some (.dT kv) ∧ ks = kv.map (fun p => keysD p.1) ∧ RelDs K W vs (kv.map (·.2))))
def RelDs (K : PySem.W.Frag) (W : Wo) : List D → List V → Prop
  | [], vs => vs = []
  | d :: ds, vs => ∃ v ws, vs = v :: ws ∧ RelD K W d v ∧ RelDs K W ds ws
end

structure Wo.sub (W W' : Wo) : Prop where
  G : ∀ a o, W.G a = some o → W'.G a = some o
  N : W.N ≤ W'.N
  ι : ∀ n, n < W.N → W'.ι n = W.ι n
structure Wo.le (W W' : Wo) : Prop extends Wo.sub W W' where
  Z : W'.Z = W.Z
theorem Wo.sub.refl {W : Wo} : W.sub W := ⟨fun _ _ h => h, Nat.le_refl _, fun _ _ => rfl⟩
theorem Wo.sub.trans {U W W' : Wo} (a : U.sub W) (b : W.sub W') : U.sub W' :=
  ⟨fun _ _ h => b.G _ _ (a.G _ _ h), Nat.le_trans a.N b.N, fun n h => (b.ι n (Nat.lt_of_lt_of_le h a.N)).trans (a.ι n h)⟩
theorem Wo.le.refl {W : Wo} : W.le W := ⟨.refl, rfl⟩
theorem Wo.le.trans {U W W' : Wo} (a : U.le W) (b : W.le W') : U.le W' := ⟨a.tosub.trans b.tosub, b.Z.trans a.Z⟩

theorem Rd.le {G G' : Hp} (h : ∀ a o, G a = some o → G' a = some o) {a : Addr} {u : HO} (r : Rd G a u) : Rd G' a u := by
  rcases r with r | ⟨o, r⟩
  · exact .inl (h _ _ r)
  · exact .inr ⟨o, h _ _ r⟩
theorem SqL.le {K : PySem.W.Frag} {G G' : Hp} (h : ∀ a o, G a = some o → G' a = some o) {a : Addr} {xs : List V} (r : SqL K G a xs) : SqL K G' a xs := r.imp (Rd.le h) id
theorem SqT.le {K : PySem.W.Frag} {G G' : Hp} (h : ∀ a o, G a = some o → G' a = some o) {a : Addr} {xs : List V} (r : SqT K G a xs) : SqT K G' a xs := r.imp (Rd.le h) id

section
variable {K : PySem.W.Frag} {W W' : Wo}
mutual
theorem RelD.mono (l : W.sub W') : ∀ (d : D) (v : V), RelD K W d v → RelD K W' d v
  | .non, _, h => h
  | .bl _, _, h => h
  | .int _, _, h => h
  | .str _, _, h => h
  | .raw _, _, h => h
  | .loc n, v, ⟨h, e⟩ => ⟨Nat.lt_of_lt_of_le h l.N, by rw [l.ι n h]; exact e⟩
  | .scr ns, v, ⟨a, e, h⟩ => ⟨a, e, SqL.le l.G h⟩
  | .lst ds, v, ⟨a, vs, e, h, r, z⟩ => ⟨a, vs, e, l.G _ _ h, RelDs.mono l ds vs r, z⟩
  | .tup ds, v, ⟨a, vs, e, h, r, z⟩ => ⟨a, vs, e, l.G _ _ h, RelDs.mono l ds vs r, z⟩
  | .ktup ds, v, ⟨a, vs, e, h, r⟩ => ⟨a, vs, e, SqT.le l.G h, RelDs.mono l ds vs r⟩
  | .dic t ks vs, v, ⟨a, e, z, h⟩ => ⟨a, e, z, by
      rcases h with ⟨ht, kv, g, e, r⟩ | ⟨ht, kv, g, e, r⟩
      · exact .inl ⟨ht, kv, l.G _ _ g, e, RelDs.mono l vs _ r⟩
      · exact .inr ⟨ht, kv, l.G _ _ g, e, RelDs.mono l vs _ r⟩⟩
theorem RelDs.mono (l : W.sub W') : ∀ (ds : List D) (vs : List V), RelDs K W ds vs → RelDs K W' ds vs
  | [], _, h => h
  | d :: ds, vs, ⟨v, ws, e, r, rs⟩ => ⟨v, ws, e, RelD.mono l d v r, RelDs.mono l ds ws rs⟩
end
theorem RelD.le (l : W.le W') {d : D} {v : V} (h : RelD K W d v) : RelD K W' d v := RelD.mono l.tosub d v h
theorem RelDs.le (l : W.le W') {ds : List D} {vs : List V} (h : RelDs K W ds vs) : RelDs K W' ds vs := RelDs.mono l.tosub ds vs h
theorem RelDs.mono' (l : W.sub W') {ds : List D} {vs : List V} (h : RelDs K W ds vs) : RelDs K W' ds vs := RelDs.mono l ds vs h
theorem RelDs.length : ∀ {ds : List D} {vs : List V}, RelDs K W ds vs → ds.length = vs.length
  | [], vs, h => by rw [show vs = [] from h]; rfl
  | d :: ds, vs, ⟨v, ws, e, r, rs⟩ => by rw [e, List.length_cons, List.length_cons, RelDs.length rs]
theorem RelDs.get : ∀ {ds : List D} {vs : List V} {i : Nat} {d : D}, RelDs K W ds vs → ds[i]? = some d → ∃ v, vs[i]? = some v ∧ RelD K W d v
  | [], vs, i, d, h, e => by simp at e
  | d :: ds, vs, 0, d', ⟨v, ws, e, r, rs⟩, q => by
    simp at q; subst q; subst e; exact ⟨v, rfl, r⟩
  | d :: ds, vs, i + 1, d', ⟨v, ws, e, r, rs⟩, q => by
    subst e
    obtain ⟨u, h1, h2⟩ := RelDs.get (i := i) rs (by simpa using q)
    exact ⟨u, by simpa using h1, h2⟩
theorem RelDs.get' {ds : List D} {vs : List V} {i : Nat} {v : V} (h : RelDs K W ds vs) (e : vs[i]? = some v) : ∃ d, ds[i]? = some d ∧ RelD K W d v := by
  have hl := h.length
  have hi := (List.getElem?_eq_some_iff.mp e).1
  have hi' : i < ds.length := by omega
  obtain ⟨u, h1, h2⟩ := h.get (List.getElem?_eq_getElem hi')
  rw [h1] at e
  cases e
  exact ⟨_, List.getElem?_eq_getElem hi', h2⟩
theorem RelDs.append : ∀ {ds es : List D} {vs us : List V}, RelDs K W ds vs → RelDs K W es us → RelDs K W (ds ++ es) (vs ++ us)
  | [], es, vs, us, h, k => by rw [show vs = [] from h]; exact k
  | d :: ds, es, vs, us, ⟨v, ws, e, r, rs⟩, k => by subst e; exact ⟨v, ws ++ us, rfl, r, RelDs.append rs k⟩
theorem RelDs.set {x : D} {u : V} (r : RelD K W x u) : ∀ {ds : List D} {vs : List V} (i : Nat), RelDs K W ds vs → RelDs K W (ds.set i x) (vs.set i u)
  | [], vs, i, h => by rw [show vs = [] from h]; exact rfl
  | d :: ds, vs, 0, ⟨v, ws, e, q, rs⟩ => by subst e; exact ⟨u, ws, rfl, r, rs⟩
  | d :: ds, vs, i + 1, ⟨v, ws, e, q, rs⟩ => by subst e; exact ⟨v, ws.set i u, rfl, q, RelDs.set r i rs⟩
theorem RelDs.take : ∀ {ds : List D} {vs : List V} (n : Nat), RelDs K W ds vs → RelDs K W (ds.take n) (vs.take n)
  | _, _, 0, _ => by simp [RelDs]
  | [], vs, n + 1, h => by rw [show vs = [] from h]; exact rfl
  | d :: ds, vs, n + 1, ⟨v, ws, e, r, rs⟩ => by subst e; exact ⟨v, ws.take n, rfl, r, RelDs.take n rs⟩
theorem RelDs.drop : ∀ {ds : List D} {vs : List V} (n : Nat), RelDs K W ds vs → RelDs K W (ds.drop n) (vs.drop n)
  | _, _, 0, h => h
  | [], vs, n + 1, h => by rw [show vs = [] from h]; exact rfl
  | d :: ds, vs, n + 1, ⟨v, ws, e, r, rs⟩ => by subst e; exact RelDs.drop n rs
theorem RelDs.nil : RelDs K W [] [] := rfl
theorem RelDs.cons {d : D} {ds : List D} {v : V} {vs : List V} (h : RelD K W d v) (k : RelDs K W ds vs) : RelDs K W (d :: ds) (v :: vs) := ⟨v, vs, rfl, h, k⟩
theorem RelDs.rep {ds : List D} {vs : List V} (h : RelDs K W ds vs) : ∀ k : Nat, RelDs K W (List.replicate k ds).flatten (List.replicate k vs).flatten
  | 0 => rfl
  | k + 1 => by rw [List.replicate_succ, List.replicate_succ, List.flatten_cons, List.flatten_cons]; exact h.append (RelDs.rep h k)
theorem RelDs.reverse : ∀ {ds : List D} {vs : List V}, RelDs K W ds vs → RelDs K W ds.reverse vs.reverse
  | [], vs, h => by rw [show vs = [] from h]; exact rfl
  | d :: ds, vs, ⟨v, ws, e, r, rs⟩ => by subst e; rw [List.reverse_cons, List.reverse_cons]; exact (RelDs.reverse rs).append (.cons r .nil)
theorem RelDs.eraseIdx : ∀ {ds : List D} {vs : List V} (n : Nat), RelDs K W ds vs → RelDs K W (ds.eraseIdx n) (vs.eraseIdx n)
  | [], vs, n, h => by rw [show vs = [] from h]; exact rfl
  | d :: ds, vs, 0, ⟨v, ws, e, r, rs⟩ => by subst e; exact rs
  | d :: ds, vs, n + 1, ⟨v, ws, e, r, rs⟩ => by subst e; exact ⟨v, ws.eraseIdx n, rfl, r, RelDs.eraseIdx n rs⟩
theorem RelDs.dropLast {ds : List D} {vs : List V} (h : RelDs K W ds vs) : RelDs K W ds.dropLast vs.dropLast := by
  rw [List.dropLast_eq_take, List.dropLast_eq_take, h.length]; exact h.take _
theorem RelDs.ints : ∀ {ns : List Int} {vs : List V}, RelDs K W (ns.map D.int) vs → vs = ns.map V.int
  | [], vs, h => h
  | n :: ns, vs, ⟨v, ws, e, r, rs⟩ => by rw [e, show v = V.int n from r, RelDs.ints rs]; rfl
theorem RelDs.ofInts : ∀ {ns : List Int}, RelDs K W (ns.map D.int) (ns.map V.int)
  | [] => rfl
  | n :: ns => ⟨_, _, rfl, rfl, RelDs.ofInts⟩

/-- a dict that may change, by its entries -/
def RelKV (K : PySem.W.Frag) (W : Wo) (t : Bool) (kvs : List (D × D)) (ho : HO) : Prop :=
  (t = false ∧ ∃ kv : List (Key × V), ho = .dK kv ∧ kvs.map (·.1) = kv.map (fun p => keyD p.1) ∧ RelDs K W (kvs.map (·.2)) (kv.map (·.2))) ∨
  (t = true ∧ ∃ kv : List (List Key × V), ho = .dT kv ∧ kvs.map (·.1) = kv.map (fun p => keysD p.1) ∧ RelDs K W (kvs.map (·.2)) (kv.map (·.2)))
def RelAO (K : PySem.W.Frag) (ca : Ci) (W : Wo) (H : Hp) (p : Addr) : AO → Prop
  | .lst ds => ∃ vs, H p = some (.lst vs) ∧ RelDs K W ds vs
  | .dic t kvs => ∃ ho, H p = some ho ∧ RelKV K W t kvs ho
  | .obj cn vs => ∃ dx fv, H p = some (.ins (ca.ad cn) dx fv) ∧ fv.map (·.1) = (ca.nm cn).take vs.length ∧ RelDs K W vs (fv.map (·.2))
  | .dead => True
theorem RelKV.le (l : W.sub W') {t : Bool} {kvs : List (D × D)} {ho : HO} (h : RelKV K W t kvs ho) : RelKV K W' t kvs ho := by
  rcases h with ⟨ht, kv, e, k, r⟩ | ⟨ht, kv, e, k, r⟩
  · exact .inl ⟨ht, kv, e, k, r.mono' l⟩
  · exact .inr ⟨ht, kv, e, k, r.mono' l⟩
theorem RelAO.le {ca : Ci} {H H' : Hp} {p : Addr} (l : W.sub W') (e : H' p = H p) : ∀ {ao : AO}, RelAO K ca W H p ao → RelAO K ca W' H' p ao
  | .lst ds, ⟨vs, h, r⟩ => ⟨vs, by rw [e]; exact h, r.mono' l⟩
  | .dic t kvs, ⟨ho, h, r⟩ => ⟨ho, by rw [e]; exact h, r.le l⟩
  | .obj cn vs, ⟨dx, fv, h, q, r⟩ => ⟨dx, fv, by rw [e]; exact h, q, r.mono' l⟩
  | .dead, _ => trivial

structure RH (K : PySem.W.Frag) (ca : Ci) (W : Wo) (A : A) (H : Hp) : Prop where
  len : W.N = A.length
  sub : ∀ a o, W.G a = some o → H a = some o
  obj : ∀ n ao, A[n]? = some ao → RelAO K ca W H (W.ι n) ao
  ng : ∀ n ao, A[n]? = some ao → ao ≠ .dead → W.G (W.ι n) = none
  th : ∀ n, n < W.N → H (W.ι n) ≠ none
  inj : ∀ m n, m < W.N → n < W.N → W.ι m = W.ι n → m = n
  zs : ∀ a o, W.Z a = some o → H a = some o ∧ W.G a = none ∧ ∀ n, n < W.N → W.ι n ≠ a
end

section
variable {K : PySem.W.Frag} {ca : Ci} {W : Wo} {a : A} {H : Hp}
theorem RH.lt (R : RH K ca W a H) {n : Nat} {ao : AO} (h : a[n]? = some ao) : n < W.N := by
  rw [R.len]; exact (List.getElem?_eq_some_iff.mp h).1
/-- a new frozen object -/
theorem RH.newF (R : RH K ca W a H) {p : Addr} (hp : H p = none) (o : HO) : W.le { W with G := upd W.G p o } ∧ RH K ca { W with G := upd W.G p o } a (upd H p o) := by
  have gp : ∀ b u, W.G b = some u → b ≠ p := fun b u h e => by rw [e] at h; rw [R.sub _ _ h] at hp; cases hp
  have ip : ∀ n, n < W.N → W.ι n ≠ p := fun n h e => R.th n h (by rw [e]; exact hp)
  have l : W.le { W with G := upd W.G p o } := ⟨⟨fun b u h => by show upd W.G p o b = some u; rw [upd_ne (gp b u h)]; exact h, Nat.le_refl _, fun _ _ => rfl⟩, rfl⟩
  refine ⟨l, R.len, fun b u h => ?_, fun n ao h => (R.obj n ao h).le l.tosub (upd_ne (ip n (R.lt h))), fun n ao h d => ?_, fun n h => ?_, R.inj, fun b u h => ?_⟩
  · by_cases e : b = p
    · subst e
      have h : upd W.G b o b = some u := h
      rw [upd_same] at h ⊢; exact h
    · have h : upd W.G p o b = some u := h
      rw [upd_ne e] at h ⊢; exact R.sub _ _ h
  · show upd W.G p o (W.ι n) = none
    rw [upd_ne (ip n (R.lt h))]; exact R.ng n ao h d
  · rw [upd_ne (ip n h)]; exact R.th n h
  · obtain ⟨h1, h2, h3⟩ := R.zs b u h
    have : b ≠ p := fun e => by rw [e, hp] at h1; cases h1
    exact ⟨by rw [upd_ne this]; exact h1, by show upd W.G p o b = none; rw [upd_ne this]; exact h2, h3⟩
/-- something new that nobody tracks -/
theorem RH.newU (R : RH K ca W a H) {p : Addr} (hp : H p = none) (o : HO) : RH K ca W a (upd H p o) := by
  have gp : ∀ b u, W.G b = some u → b ≠ p := fun b u h e => by rw [e] at h; rw [R.sub _ _ h] at hp; cases hp
  have ip : ∀ n, n < W.N → W.ι n ≠ p := fun n h e => R.th n h (by rw [e]; exact hp)
  exact ⟨R.len, fun b u h => by rw [upd_ne (gp b u h)]; exact R.sub _ _ h, fun n ao h => (R.obj n ao h).le .refl (upd_ne (ip n (R.lt h))), R.ng, fun n h => by rw [upd_ne (ip n h)]; exact R.th n h, R.inj, fun b u h => by
    obtain ⟨h1, h2, h3⟩ := R.zs b u h
    exact ⟨by rw [upd_ne (fun e => by rw [e, hp] at h1; cases h1)]; exact h1, h2, h3⟩⟩
def Wo.add (W : Wo) (p : Addr) : Wo := ⟨W.G, fun n => if n = W.N then p else W.ι n, W.N + 1, W.Z⟩
theorem Wo.add_le (W : Wo) (p : Addr) : W.le (W.add p) :=
  ⟨⟨fun _ _ h => h, Nat.le_succ _, fun n h => by show (if n = W.N then p else W.ι n) = W.ι n; rw [if_neg (Nat.ne_of_lt h)]⟩, rfl⟩
theorem Wo.add_ι (W : Wo) (p : Addr) : (W.add p).ι W.N = p := by show (if W.N = W.N then p else W.ι W.N) = p; rw [if_pos rfl]
/-- a new loc -/
theorem RH.newL (R : RH K ca W a H) {p : Addr} (hp : H p = none) {o : HO} {ao : AO} (h : RelAO K ca (W.add p) (upd H p o) p ao) : RH K ca (W.add p) (a ++ [ao]) (upd H p o) := by
  have gp : ∀ b u, W.G b = some u → b ≠ p := fun b u h e => by rw [e] at h; rw [R.sub _ _ h] at hp; cases hp
  have ip : ∀ n, n < W.N → W.ι n ≠ p := fun n h e => R.th n h (by rw [e]; exact hp)
  have iA : ∀ n, n < W.N → (W.add p).ι n = W.ι n := (W.add_le p).ι
  have cases_ : ∀ n ao', (a ++ [ao])[n]? = some ao' → (n < W.N ∧ a[n]? = some ao') ∨ (n = W.N ∧ ao' = ao) := fun n ao' q => by
    by_cases hn : n < a.length
    · rw [List.getElem?_append_left hn] at q
      exact .inl ⟨by rw [R.len]; exact hn, q⟩
    · rw [List.getElem?_append_right (by omega)] at q
      have : n - a.length = 0 := by
        have := (List.getElem?_eq_some_iff.mp q).1
        simp at this; omega
      rw [this] at q
      simp at q
      exact .inr ⟨by rw [R.len]; omega, q.symm⟩
  refine ⟨by show W.N + 1 = _; rw [R.len, List.length_append, List.length_singleton], fun b u h => ?_, fun n ao' q => ?_, fun n ao' q d => ?_, fun n q => ?_, fun m n hm hn e => ?_, fun b u h => ?_⟩
  · have h : W.G b = some u := h
    rw [upd_ne (gp b u h)]; exact R.sub _ _ h
  · rcases cases_ n ao' q with ⟨hn, q⟩ | ⟨hn, e⟩
    · rw [iA n hn]
      exact (R.obj n ao' q).le (W.add_le p).tosub (upd_ne (ip n hn))
    · subst hn; subst e
      rw [Wo.add_ι]; exact h
  · rcases cases_ n ao' q with ⟨hn, q⟩ | ⟨hn, q⟩
    · rw [iA n hn]; exact R.ng n ao' q d
    · subst hn
      rw [Wo.add_ι]
      show W.G p = none
      cases hg : W.G p with
      | none => rfl
      | some u => exact absurd rfl (gp p u hg)
  · by_cases hn : n < W.N
    · rw [iA n hn, upd_ne (ip n hn)]; exact R.th n hn
    · have : n = W.N := by have : n < W.N + 1 := q; omega
      subst this
      rw [Wo.add_ι, upd_same]; intro z; cases z
  · have hm' : m < W.N + 1 := hm
    have hn' : n < W.N + 1 := hn
    by_cases h1 : m < W.N <;> by_cases h2 : n < W.N
    · rw [iA m h1, iA n h2] at e; exact R.inj m n h1 h2 e
    · have : n = W.N := by omega
      subst this
      rw [iA m h1, Wo.add_ι] at e; exact absurd e (ip m h1)
    · have : m = W.N := by omega
      subst this
      rw [iA n h2, Wo.add_ι] at e; exact absurd e.symm (ip n h2)
    · omega
  · obtain ⟨h1, h2, h3⟩ := R.zs b u h
    have hb : b ≠ p := fun e => by rw [e, hp] at h1; cases h1
    refine ⟨by rw [upd_ne hb]; exact h1, h2, fun n hn => ?_⟩
    by_cases hl : n < W.N
    · rw [iA n hl]; exact h3 n hl
    · have hn' : n < W.N + 1 := hn
      have : n = W.N := by omega
      subst this
      rw [Wo.add_ι]; exact fun e => hb e.symm
/-- a loc changes -/
theorem RH.put (R : RH K ca W a H) {n : Nat} {ao0 ao : AO} (h0 : a[n]? = some ao0) (d0 : ao0 ≠ .dead) {o : HO} (h : RelAO K ca W (upd H (W.ι n) o) (W.ι n) ao) (d : ao ≠ .dead) : RH K ca W (a.set n ao) (upd H (W.ι n) o) := by
  have hn := R.lt h0
  have ge : W.G (W.ι n) = none := R.ng n ao0 h0 d0
  refine ⟨by rw [R.len, List.length_set], fun b u q => ?_, fun m ao' q => ?_, fun m ao' q d' => ?_, fun m q => ?_, R.inj, fun b u q => ?_⟩
  · have : b ≠ W.ι n := fun e => by rw [e, ge] at q; cases q
    rw [upd_ne this]; exact R.sub _ _ q
  · by_cases e : m = n
    · subst e
      rw [List.getElem?_set_self (by rw [← R.len]; exact hn)] at q
      cases q; exact h
    · rw [List.getElem?_set_ne (fun z => e z.symm)] at q
      exact (R.obj m ao' q).le .refl (upd_ne fun z => e (R.inj m n (R.lt q) hn z))
  · by_cases e : m = n
    · subst e; exact ge
    · rw [List.getElem?_set_ne (fun z => e z.symm)] at q
      exact R.ng m ao' q d'
  · by_cases e : W.ι m = W.ι n
    · rw [e, upd_same]; intro z; cases z
    · rw [upd_ne e]; exact R.th m q
  · obtain ⟨h1, h2, h3⟩ := R.zs b u q
    exact ⟨by rw [upd_ne (fun e => h3 n hn e.symm)]; exact h1, h2, h3⟩
/-- a loc is frozen -/
theorem RH.freeze (R : RH K ca W a H) {n : Nat} {ao : AO} (h0 : a[n]? = some ao) {o : HO} (ho : H (W.ι n) = some o) :
    W.le { W with G := upd W.G (W.ι n) o } ∧ RH K ca { W with G := upd W.G (W.ι n) o } (a.set n .dead) H := by
  have hn := R.lt h0
  have l : W.le { W with G := upd W.G (W.ι n) o } := ⟨⟨fun b u h => by
    show upd W.G (W.ι n) o b = some u
    by_cases e : b = W.ι n
    · rw [e, upd_same, ← ho, ← e]; exact R.sub _ _ h
    · rw [upd_ne e]; exact h, Nat.le_refl _, fun _ _ => rfl⟩, rfl⟩
  refine ⟨l, by show W.N = _; rw [R.len, List.length_set], fun b u q => ?_, fun m ao' q => ?_, fun m ao' q d' => ?_, R.th, R.inj, fun b u q => ?_⟩
  · have q : upd W.G (W.ι n) o b = some u := q
    by_cases e : b = W.ι n
    · rw [e, upd_same] at q; rw [e, ho]; exact q
    · rw [upd_ne e] at q; exact R.sub _ _ q
  · by_cases e : m = n
    · subst e
      rw [List.getElem?_set_self (by rw [← R.len]; exact hn)] at q
      cases q; trivial
    · rw [List.getElem?_set_ne (fun z => e z.symm)] at q
      exact (R.obj m ao' q).le l.tosub rfl
  · by_cases e : m = n
    · subst e
      rw [List.getElem?_set_self (by rw [← R.len]; exact hn)] at q
      cases q; exact absurd rfl d'
    · rw [List.getElem?_set_ne (fun z => e z.symm)] at q
      show upd W.G (W.ι n) o (W.ι m) = none
      rw [upd_ne fun z => e (R.inj m n (R.lt q) hn z)]
      exact R.ng m ao' q d'
  · obtain ⟨h1, h2, h3⟩ := R.zs b u q
    exact ⟨h1, by show upd W.G (W.ι n) o b = none; rw [upd_ne (fun e => h3 n hn e.symm)]; exact h2, h3⟩
end
end DW
set_option Elab.async false
set_option linter.all false
set_option maxRecDepth 100000
set_option maxHeartbeats 400000
namespace DW
open PySem PySem.Spec PyProof.Rows L2
/-! ## Judgements over data -/
/-- what is known of the world from the beginning on -/
structure Bw where
  p : Wo → Prop
  up : ∀ W W', p W → W.le W' → p W'
def Bw.any : Bw := ⟨fun _ => True, fun _ _ _ _ => True.intro⟩
def Bw.of (W : Wo) : Bw := ⟨W.le, fun _ _ => Wo.le.trans⟩
structure RS (K : PySem.W.Frag) (ca : Ci) (W0 : Bw) (W : Wo) (a : A) (H : Hp) (ρ : En) (σ : L2.St) : Prop where
  b : W0.p W
  rh : RH K ca W a H
  sl : ∀ (i : Nat) (d : D), ρ[i]? = some (some d) → ∃ v, σ[i]? = some (some v) ∧ RelD K W d v
  ln : ρ.length = σ.length
abbrev TE' := En → A → DQ → Prop
abbrev TT' := En → A → (Bool → A → Prop) → Prop
abbrev TA' := En → A → (List D → A → Prop) → Prop
structure Dn where
  nx : En → A → Prop
  rt : DQ
  bk : En → A → Prop := fun _ _ => False
  ct : En → A → Prop := fun _ _ => False
abbrev TS' := Dn → En → A → Prop
/-- what comes behind -/
def Kont (K : PySem.W.Frag) (ca : Ci) (W : Wo) (Q : DQ) (Q2 : VK) : Prop :=
  ∀ v H' W' A' d, W.le W' → RH K ca W' A' H' → RelD K W' d v → Q d A' → Q2 v H'
def KontT (K : PySem.W.Frag) (ca : Ci) (W : Wo) (Q : Bool → A → Prop) (Q2 : Bool → Hp → Prop) : Prop :=
  ∀ b H' W' A', W.le W' → RH K ca W' A' H' → Q b A' → Q2 b H'
def KontA (K : PySem.W.Frag) (ca : Ci) (W : Wo) (Q : List D → A → Prop) (Q2 : List V → Hp → Prop) : Prop :=
  ∀ vs H' W' A' ds, W.le W' → RH K ca W' A' H' → RelDs K W' ds vs → Q ds A' → Q2 vs H'
def KontS (K : PySem.W.Frag) (ca : Ci) (W0 : Bw) (W : Wo) (Q : En → A → Prop) (Q2 : L2.St → Hp → Prop) : Prop :=
  ∀ σ' H' W' A' ρ', W.le W' → RS K ca W0 W' A' H' ρ' σ' → Q ρ' A' → Q2 σ' H'
section
variable {K : PySem.W.Frag} {ca : Ci} {W0 : Bw} {W W' : Wo} {a a' : A} {H H' : Hp} {ρ : En} {σ : L2.St}
theorem RS.next (R : RS K ca W0 W a H ρ σ) (l : W.le W') (h : RH K ca W' a' H') : RS K ca W0 W' a' H' ρ σ :=
  ⟨W0.up _ _ R.b l, h, fun i d e => let ⟨v, h1, h2⟩ := R.sl i d e; ⟨v, h1, h2.le l⟩, R.ln⟩
theorem Kont.le {Q : DQ} {Q2 : VK} (k : Kont K ca W Q Q2) (l : W.le W') : Kont K ca W' Q Q2 := fun v H' W'' A' d l' => k v H' W'' A' d (l.trans l')
theorem KontT.le {Q : Bool → A → Prop} {Q2 : Bool → Hp → Prop} (k : KontT K ca W Q Q2) (l : W.le W') : KontT K ca W' Q Q2 := fun v H' W'' A' l' => k v H' W'' A' (l.trans l')
theorem KontA.le {Q : List D → A → Prop} {Q2 : List V → Hp → Prop} (k : KontA K ca W Q Q2) (l : W.le W') : KontA K ca W' Q Q2 := fun v H' W'' A' d l' => k v H' W'' A' d (l.trans l')
theorem KontS.le {Q : En → A → Prop} {Q2 : L2.St → Hp → Prop} (k : KontS K ca W0 W Q Q2) (l : W.le W') : KontS K ca W0 W' Q Q2 := fun v H' W'' A' d l' => k v H' W'' A' d (l.trans l')
theorem RS.store (R : RS K ca W0 W a H ρ σ) {i : Nat} {d : D} {v : V} (r : RelD K W d v) : RS K ca W0 W a H (ρ.set i (some d)) (σ.set i (some v)) :=
  ⟨R.b, R.rh, fun j e q => by
    by_cases h : j = i
    · subst h
      by_cases hl : j < ρ.length
      · rw [List.getElem?_set_self hl] at q
        cases q
        exact ⟨v, List.getElem?_set_self (by rw [← R.ln]; exact hl), r⟩
      · rw [List.getElem?_eq_none (by rw [List.length_set]; omega)] at q; cases q
    · rw [List.getElem?_set_ne (fun z => h z.symm)] at q ⊢
      exact R.sl j e q, by rw [List.length_set, List.length_set]; exact R.ln⟩
end

def DE (X : Cx) (ca : Ci) (W0 : Bw) (e : Expr) (t : TE') : Prop := ∃ te, PE X e te ∧ ∀ W a H ρ σ Q Q2, RS X.K ca W0 W a H ρ σ → t ρ a Q → Kont X.K ca W Q Q2 → te σ H Q2
def DT (X : Cx) (ca : Ci) (W0 : Bw) (e : Expr) (t : TT') : Prop := ∃ te, PT X e te ∧ ∀ W a H ρ σ Q Q2, RS X.K ca W0 W a H ρ σ → t ρ a Q → KontT X.K ca W Q Q2 → te σ H Q2
def DTW (X : Cx) (ca : Ci) (W0 : Bw) (e : Expr) (t : TT') : Prop := ∃ te, PW X e te ∧ ∀ W a H ρ σ Q Q2, RS X.K ca W0 W a H ρ σ → t ρ a Q → KontT X.K ca W Q Q2 → te σ H Q2
def DA (X : Cx) (ca : Ci) (W0 : Bw) (es : List Expr) (t : TA') : Prop := ∃ te, PA X es te ∧ ∀ W a H ρ σ Q Q2, RS X.K ca W0 W a H ρ σ → t ρ a Q → KontA X.K ca W Q Q2 → te σ H Q2
/-- the ends of a body correspond -/
structure KontD (K : PySem.W.Frag) (ca : Ci) (W0 : Bw) (W : Wo) (D' : Dn) (E : Ends) : Prop where
  nx : KontS K ca W0 W D'.nx E.nx
  rt : Kont K ca W D'.rt E.rt
  bk : KontS K ca W0 W D'.bk E.bk
  ct : KontS K ca W0 W D'.ct E.ct
theorem KontD.le {K : PySem.W.Frag} {ca : Ci} {W0 : Bw} {W W' : Wo} {D' : Dn} {E : Ends} (k : KontD K ca W0 W D' E) (l : W.le W') : KontD K ca W0 W' D' E := ⟨k.nx.le l, k.rt.le l, k.bk.le l, k.ct.le l⟩
def DS (X : Cx) (ca : Ci) (W0 : Bw) (s : Stmt) (t : TS') : Prop := ∃ ts, PS X s ts ∧ ∀ W a H ρ σ D' E, RS X.K ca W0 W a H ρ σ → t D' ρ a → KontD X.K ca W0 W D' E → ts E σ H
def DSs (X : Cx) (ca : Ci) (W0 : Bw) (s : List Stmt) (t : TS') : Prop := ∃ ts, PSs X s ts ∧ ∀ W a H ρ σ D' E, RS X.K ca W0 W a H ρ σ → t D' ρ a → KontD X.K ca W0 W D' E → ts E σ H

/-! ## Expressions -/
def wVar (i : Nat) : TE' := fun ρ a Q => match ρ[i]? with | some (some d) => Q d a | _ => False
def wC (d : D) : TE' := fun _ a Q => Q d a
section
variable {X : Cx} {ca : Ci} {W0 : Bw} {pos : Pos}
theorem de_var {i : Nat} {x : Str} (hN : X.N[i]? = some x) (hv : Vis X.env.scope x) (hd : (x == ("__debug__" : Str)) = false := by decide) (hcd : (x == ("__classdict__" : Str)) = false := by decide) : DE X ca W0 (.Name x pos) (wVar i) := by
  refine ⟨tVar i, pe_var hN hv hd hcd, fun W a H ρ σ Q Q2 R h k => ?_⟩
  unfold wVar at h
  cases e : ρ[i]? with
  | none => rw [e] at h; exact h.elim
  | some o =>
    cases o with
    | none => rw [e] at h; exact h.elim
    | some d =>
      rw [e] at h
      obtain ⟨v, hv, r⟩ := R.sl i d e
      exact ⟨v, hv, k v H W a d .refl R.rh r h⟩
theorem de_const {e : Expr} {v : V} {d : D} (h : PE X e (tC v)) (r : ∀ W, RelD X.K W d v) : DE X ca W0 e (wC d) :=
  ⟨_, h, fun W a H ρ σ Q Q2 R q k => k v H W a d .refl R.rh (r W) q⟩
theorem de_int {i j} : DE X ca W0 (.Constant (.int i) j pos) (wC (.int i)) := de_const pe_int fun _ => rfl
theorem de_bl {b j} : DE X ca W0 (.Constant (.bool b) j pos) (wC (.bl b)) := de_const pe_bl fun _ => rfl
theorem de_non {j} : DE X ca W0 (.Constant .none j pos) (wC .non) := de_const pe_non fun _ => rfl
theorem de_str {x j} : DE X ca W0 (.Constant (.str x) j pos) (wC (.str x)) := de_const pe_str fun _ => rfl
/-- a module's constant -/
theorem de_glob {x : Str} {v : V} {d : D} {u : Value} (hg : Gl X x) (hm : X.mg x = some u) (r : RelV v u) (rd : ∀ W, RelD X.K W d v) (hd : (x == ("__debug__" : Str)) = false := by decide) : DE X ca W0 (.Name x pos) (wC d) := de_const (pe_glob hg hm r hd) rd
theorem de_bltn {x : Str} {v : V} {u : Value} (hg : Gl X x) (hm : X.mg x = none) (hv : bootBuiltins x = some u) (r : RelV v u) (hn : x ≠ "__name__" := by decide) (hd : (x == ("__debug__" : Str)) = false := by decide) : DE X ca W0 (.Name x pos) (wC (.raw v)) := de_const (pe_bltn hg hm hv r hn hd) fun _ => rfl
end

/-! ## What a value shows -/
/-- the items of a list that a value is -/
def vwL (a : A) : D → Option (List D)
  | .lst ds => some ds
  | .loc n => match a[n]? with | some (.lst ds) => some ds | _ => none
  | _ => none
/-- .. or of the script -/
def vwS (a : A) : D → Option (List D)
  | .scr ns => some (ns.map D.int)
  | d => vwL a d
def vwT : D → Option (List D)
  | .tup ds => some ds
  | .ktup ds => some ds
  | _ => none
/-- a list or a tuple -/
def vwLT (a : A) : D → Option (List D)
  | .tup ds => some ds
  | .ktup ds => some ds
  | d => vwS a d
/-- the entries of a dict -/
def vwD (a : A) : D → Option (Bool × List (D × D))
  | .dic t ks vs => some (t, ks.zip vs)
  | .loc n => match a[n]? with | some (.dic t kvs) => some (t, kvs) | _ => none
  | _ => none
section
variable {K : PySem.W.Frag} {ca : Ci} {W : Wo} {a : A} {H : Hp}
theorem RH.vwL (R : RH K ca W a H) {d : D} {v : V} {ds : List D} (r : RelD K W d v) (h : vwL a d = some ds) : ∃ p vs, v = .ref p ∧ H p = some (.lst vs) ∧ RelDs K W ds vs := by
  cases d with
  | lst es =>
    obtain ⟨p, vs, e, g, r, _⟩ := r
    cases h
    exact ⟨p, vs, e, R.sub _ _ g, r⟩
  | loc n =>
    obtain ⟨hn, e⟩ := r
    unfold DW.vwL at h
    cases q : a[n]? with
    | none => simp [q] at h
    | some ao =>
      cases ao with
      | lst es =>
        simp [q] at h
        subst h
        obtain ⟨vs, h1, h2⟩ := R.obj n _ q
        exact ⟨_, vs, e, h1, h2⟩
      | dic _ _ => simp [q] at h
      | obj _ _ => simp [q] at h
      | dead => simp [q] at h
  | _ => simp [DW.vwL] at h
theorem RH.vwS (R : RH K ca W a H) {d : D} {v : V} {ds : List D} (r : RelD K W d v) (h : vwS a d = some ds) : ∃ p vs, v = .ref p ∧ SqL K H p vs ∧ RelDs K W ds vs := by
  cases d with
  | scr ns =>
    obtain ⟨p, e, g⟩ := r
    cases h
    exact ⟨p, _, e, SqL.le R.sub g, RelDs.ofInts⟩
  | lst es => obtain ⟨p, vs, e, g, q⟩ := R.vwL r h; exact ⟨p, vs, e, SqL.of g, q⟩
  | loc es => obtain ⟨p, vs, e, g, q⟩ := R.vwL r h; exact ⟨p, vs, e, SqL.of g, q⟩
  | _ => simp [DW.vwS, DW.vwL] at h
theorem RH.vwT (R : RH K ca W a H) {d : D} {v : V} {ds : List D} (r : RelD K W d v) (h : vwT d = some ds) : ∃ p vs, v = .ref p ∧ SqT K H p vs ∧ RelDs K W ds vs := by
  cases d with
  | tup es =>
    obtain ⟨p, vs, e, g, r, _⟩ := r
    cases h
    exact ⟨p, vs, e, SqT.of (R.sub _ _ g), r⟩
  | ktup es =>
    obtain ⟨p, vs, e, g, r⟩ := r
    cases h
    exact ⟨p, vs, e, SqT.le R.sub g, r⟩
  | _ => simp [DW.vwT] at h
theorem RH.vwLT (R : RH K ca W a H) {d : D} {v : V} {ds : List D} (r : RelD K W d v) (h : vwLT a d = some ds) : ∃ p vs, v = .ref p ∧ (SqL K H p vs ∨ SqT K H p vs) ∧ RelDs K W ds vs := by
  cases d with
  | tup es => obtain ⟨p, vs, e, g, q⟩ := R.vwT r h; exact ⟨p, vs, e, .inr g, q⟩
  | ktup es => obtain ⟨p, vs, e, g, q⟩ := R.vwT r h; exact ⟨p, vs, e, .inr g, q⟩
  | scr ns => obtain ⟨p, vs, e, g, q⟩ := R.vwS r h; exact ⟨p, vs, e, .inl g, q⟩
  | lst es => obtain ⟨p, vs, e, g, q⟩ := R.vwS r h; exact ⟨p, vs, e, .inl g, q⟩
  | loc es => obtain ⟨p, vs, e, g, q⟩ := R.vwS r h; exact ⟨p, vs, e, .inl g, q⟩
  | _ => simp [DW.vwLT, DW.vwS, DW.vwL] at h
end

theorem RH.vwD {K : PySem.W.Frag} {ca : Ci} {W : Wo} {a : A} {H : Hp} (R : RH K ca W a H) {d : D} {v : V} {t : Bool} {kvs : List (D × D)} (r : RelD K W d v) (h : vwD a d = some (t, kvs)) : ∃ p ho, v = .ref p ∧ H p = some ho ∧ RelKV K W t kvs ho := by
  cases d with
  | dic t' ks vs =>
    obtain ⟨p, e, _, g⟩ := r
    cases h
    have zz : ∀ {α : Type} (f : α → D) (g : α → V) (kv : List α), ks = kv.map f → RelDs K W vs (kv.map g) → (ks.zip vs).map (·.1) = kv.map f ∧ RelDs K W ((ks.zip vs).map (·.2)) (kv.map g) := fun f g kv h1 h2 => by
      have hl : ks.length = vs.length := by rw [h1, h2.length, List.length_map, List.length_map]
      rw [show (fun x : D × D => x.1) = Prod.fst from rfl, show (fun x : D × D => x.2) = Prod.snd from rfl, List.map_fst_zip (by omega), List.map_snd_zip (by omega)]
      exact ⟨h1, h2⟩
    rcases g with ⟨ht, kv, g, e1, e2⟩ | ⟨ht, kv, g, e1, e2⟩
    · exact ⟨p, _, e, R.sub _ _ g, .inl ⟨ht, kv, rfl, (zz _ _ kv e1 e2).1, (zz _ _ kv e1 e2).2⟩⟩
    · exact ⟨p, _, e, R.sub _ _ g, .inr ⟨ht, kv, rfl, (zz _ _ kv e1 e2).1, (zz _ _ kv e1 e2).2⟩⟩
  | loc n =>
    obtain ⟨hn, e⟩ := r
    unfold DW.vwD at h
    cases q : a[n]? with
    | none => simp [q] at h
    | some ao =>
      cases ao with
      | dic u es =>
        simp [q] at h
        obtain ⟨h1, h2⟩ := h
        subst h1; subst h2
        obtain ⟨ho, h1, h2⟩ := R.obj n _ q
        exact ⟨_, ho, e, h1, h2⟩
      | lst _ => simp [q] at h
      | obj _ _ => simp [q] at h
      | dead => simp [q] at h
  | _ => simp [DW.vwD] at h

/-! ## Operators by values -/
def Op2 (K : PySem.W.Frag) (ca : Ci) (rr : R2) (r : D → D → A → DQ → Prop) : Prop :=
  ∀ W a H d e x y Q Q2, RH K ca W a H → RelD K W d x → RelD K W e y → r d e a Q → Kont K ca W Q Q2 → rr x y H Q2
def Op1 (K : PySem.W.Frag) (ca : Ci) (rr : V → Hp → VK → Prop) (r : D → A → DQ → Prop) : Prop :=
  ∀ W a H d x Q Q2, RH K ca W a H → RelD K W d x → r d a Q → Kont K ca W Q Q2 → rr x H Q2
def OpN (K : PySem.W.Frag) (ca : Ci) (rr : List V → Hp → VK → Prop) (r : List D → A → DQ → Prop) : Prop :=
  ∀ W a H ds xs Q Q2, RH K ca W a H → RelDs K W ds xs → r ds a Q → Kont K ca W Q Q2 → rr xs H Q2
def wOp (r : D → D → A → DQ → Prop) (ta tb : TE') : TE' := fun ρ a Q => ta ρ a fun d a1 => tb ρ a1 fun e a2 => r d e a2 Q
def wUn (r : D → A → DQ → Prop) (ta : TE') : TE' := fun ρ a Q => ta ρ a fun d a1 => r d a1 Q
section
variable {X : Cx} {ca : Ci} {W0 : Bw} {pos : Pos} {e f : Expr} {ta tb : TE'} {r : D → D → A → DQ → Prop} {rr : R2}
theorem two {te tf : TE} {Q : DQ} {Q2 : VK} (R2' : Op2 X.K ca rr r)
    (he : ∀ W a H ρ σ Q Q2, RS X.K ca W0 W a H ρ σ → ta ρ a Q → Kont X.K ca W Q Q2 → te σ H Q2) (hf : ∀ W a H ρ σ Q Q2, RS X.K ca W0 W a H ρ σ → tb ρ a Q → Kont X.K ca W Q Q2 → tf σ H Q2)
    {W : Wo} {a : A} {H : Hp} {ρ : En} {σ : L2.St} (R : RS X.K ca W0 W a H ρ σ) (h : wOp r ta tb ρ a Q) (k : Kont X.K ca W Q Q2) : te σ H fun x H1 => tf σ H1 fun y H2 => rr x y H2 Q2 := by
  refine he W a H ρ σ _ _ R h fun x H1 W1 a1 d l1 R1 r1 q1 => ?_
  refine hf W1 a1 H1 ρ σ _ _ (R.next l1 R1) q1 fun y H2 W2 a2 e l2 R2 r2 q2 => ?_
  exact R2' W2 a2 H2 d e x y Q Q2 R2 (r1.le l2) r2 q2 (k.le (l1.trans l2))
theorem de_bin {op : Operator} (ho : OpR X (binaryOp op) rr) (hr : Op2 X.K ca rr r) (he : DE X ca W0 e ta) (hf : DE X ca W0 f tb) : DE X ca W0 (.BinOp e op f pos) (wOp r ta tb) := by
  obtain ⟨te, pe, he⟩ := he
  obtain ⟨tf, pf, hf⟩ := hf
  exact ⟨_, pe_op ho pe pf, fun W a H ρ σ Q Q2 R h k => two hr he hf R h k⟩
theorem de_un {op : UnaryOp} {rr : V → Hp → VK → Prop} {r : D → A → DQ → Prop} (ho : UnR X (unaryOp op) rr) (hr : Op1 X.K ca rr r) (he : DE X ca W0 e ta) : DE X ca W0 (.UnaryOp op e pos) (wUn r ta) := by
  obtain ⟨te, pe, he⟩ := he
  refine ⟨_, pe_un ho pe, fun W a H ρ σ Q Q2 R h k => he W a H ρ σ _ _ R h fun x H1 W1 a1 d l1 R1 r1 q1 => hr W1 a1 H1 d x Q Q2 R1 r1 q1 (k.le l1)⟩
theorem de_cmp {op : CmpOp} (ho : OpR X (compareOp op) rr) (hr : Op2 X.K ca rr r) (he : DE X ca W0 e ta) (hf : DE X ca W0 f tb) (hm : behindInMarks op f = false) : DE X ca W0 (.Compare e [op] [f] pos) (wOp r ta tb) := by
  obtain ⟨te, pe, he⟩ := he
  obtain ⟨tf, pf, hf⟩ := hf
  exact ⟨_, pe_cmpR ho pe pf hm, fun W a H ρ σ Q Q2 R h k => two hr he hf R h k⟩
def wTest (t : TE') : TT' := fun ρ a Q => t ρ a fun d a1 => match d with | .bl b => Q b a1 | _ => False
theorem dt_cmp {op : CmpOp} (ho : OpR X (compareOp op) rr) (hr : Op2 X.K ca rr r) (he : DE X ca W0 e ta) (hf : DE X ca W0 f tb) (hm : behindInMarks op f = false) : DT X ca W0 (.Compare e [op] [f] pos) (wTest (wOp r ta tb)) := by
  obtain ⟨te, pe, he⟩ := he
  obtain ⟨tf, pf, hf⟩ := hf
  refine ⟨_, pt_cmpR ho pe pf hm, fun W a H ρ σ Q Q2 R h k => two hr he hf R h fun v H' W' a' d l R' rd q => ?_⟩
  cases d <;> first | exact (show False from q).elim | skip
  rw [show v = V.bl _ from rd]
  exact ⟨_, rfl, k _ H' W' a' l R' q⟩
theorem de_ix {rr : R2} (ho : IxR X rr) (hr : Op2 X.K ca rr r) (he : DE X ca W0 e ta) (hf : DE X ca W0 f tb) (hs : PlainIx f) : DE X ca W0 (.Subscript e f pos) (wOp r ta tb) := by
  obtain ⟨te, pe, he⟩ := he
  obtain ⟨tf, pf, hf⟩ := hf
  exact ⟨_, pe_ix ho pe pf hs, fun W a H ρ σ Q Q2 R h k => two hr he hf R h k⟩
end

/-! ### truth -/
def truD (a : A) : D → Option Bool
  | .non => some false
  | .bl b => some b
  | .int i => some (i != 0)
  | .tup ds => some (!ds.isEmpty)
  | .ktup ds => some (!ds.isEmpty)
  | .lst ds => some (!ds.isEmpty)
  | .scr ns => some (!ns.isEmpty)
  | .loc n => match a[n]? with | some (.lst ds) => some (!ds.isEmpty) | _ => none
  | _ => none
theorem RelDs.isEmpty {K : PySem.W.Frag} {W : Wo} {ds : List D} {vs : List V} (r : RelDs K W ds vs) : ds.isEmpty = vs.isEmpty := by
  have := r.length
  cases ds <;> cases vs <;> simp_all
theorem truD_ok {K : PySem.W.Frag} {ca : Ci} {W : Wo} {a : A} {H : Hp} (R : RH K ca W a H) {d : D} {v : V} {k : Bool} (r : RelD K W d v) (h : truD a d = some k) : TruV K v H k := by
  cases d with
  | non => cases h; rw [show v = V.non from r]; rfl
  | bl b => cases h; rw [show v = V.bl _ from r]; rfl
  | int i => cases h; rw [show v = V.int i from r]; rfl
  | str x => cases h
  | tup ds => cases h; obtain ⟨p, vs, e, g, q⟩ := R.vwT (ds := ds) r rfl; subst e; exact .inr (.inl ⟨vs, g, by rw [q.isEmpty]⟩)
  | ktup ds => cases h; obtain ⟨p, vs, e, g, q⟩ := R.vwT (ds := ds) r rfl; subst e; exact .inr (.inl ⟨vs, g, by rw [q.isEmpty]⟩)
  | lst ds => cases h; obtain ⟨p, vs, e, g, q⟩ := R.vwS (ds := ds) r rfl; subst e; exact .inl ⟨vs, g, by rw [q.isEmpty]⟩
  | scr ns => cases h; obtain ⟨p, vs, e, g, q⟩ := R.vwS (d := .scr ns) r rfl; subst e; exact .inl ⟨vs, g, by rw [← q.isEmpty, List.isEmpty_map]⟩
  | loc n =>
    unfold truD at h
    cases q : a[n]? with
    | none => simp [q] at h
    | some ao =>
      cases ao with
      | lst es =>
        simp only [q] at h; cases h
        obtain ⟨p, vs, e, g, q⟩ := R.vwS (d := .loc n) (ds := es) r (by simp [vwS, vwL, q])
        subst e; exact .inl ⟨vs, g, by rw [q.isEmpty]⟩
      | dic _ _ => simp [q] at h
      | obj _ _ => simp [q] at h
      | dead => simp [q] at h
  | dic _ _ _ => cases h
  | raw _ => cases h
def wTru (t : TE') : TT' := fun ρ a Q => t ρ a fun d a1 => match truD a1 d with | some k => Q k a1 | none => False
section
variable {X : Cx} {ca : Ci} {W0 : Bw} {pos : Pos} {e f : Expr} {ta tb : TE'} {rest : List Expr}
theorem wTru_some {d : D} {a : A} {Q : Bool → A → Prop} (h : match truD a d with | some k => Q k a | none => False) : ∃ k, truD a d = some k ∧ Q k a := by
  cases e : truD a d with
  | none => rw [e] at h; exact h.elim
  | some k => rw [e] at h; exact ⟨k, rfl, h⟩
theorem dt_truth (he : DE X ca W0 e ta) (hp : ∀ whole, isTrue e X.env whole = (do let v ← whole; standAt e.pos; holding [v] (truthy v)) := by intro _; rfl) : DT X ca W0 e (wTru ta) := by
  obtain ⟨te, pe, he⟩ := he
  refine ⟨_, pt_truth pe hp, fun W a H ρ σ Q Q2 R h k => he W a H ρ σ _ _ R h fun v H1 W1 a1 d l1 R1 r1 q1 => ?_⟩
  obtain ⟨b, hb, q⟩ := wTru_some q1
  exact ⟨b, truD_ok R1 r1 hb, k b H1 W1 a1 l1 R1 q⟩
theorem dtw_pt {t : TT'} (h : DTW X ca W0 e t) : DT X ca W0 e t := let ⟨te, p, h⟩ := h; ⟨te, p.pt, h⟩
def wAnd (t u : TT') : TT' := fun ρ a Q => t ρ a fun c a1 => if c = true then u ρ a1 Q else Q false a1
def wOr (t u : TT') : TT' := fun ρ a Q => t ρ a fun c a1 => if c = true then Q true a1 else u ρ a1 Q
def wNot (t : TT') : TT' := fun ρ a Q => t ρ a fun c a1 => Q (!c) a1
variable {tA tB : TT'}
theorem dt_and1 (h : DT X ca W0 e tA) : DTW X ca W0 (.BoolOp .And [e] pos) tA := let ⟨te, p, h⟩ := h; ⟨te, pw_and1 p, h⟩
theorem dt_or1 (h : DT X ca W0 e tA) : DTW X ca W0 (.BoolOp .Or [e] pos) tA := let ⟨te, p, h⟩ := h; ⟨te, pw_or1 p, h⟩
theorem dt_and (h : DT X ca W0 e tA) (h2 : DTW X ca W0 (.BoolOp .And (f :: rest) pos) tB) : DTW X ca W0 (.BoolOp .And (e :: f :: rest) pos) (wAnd tA tB) := by
  obtain ⟨te, p, h⟩ := h
  obtain ⟨tf, p2, h2⟩ := h2
  refine ⟨_, pw_and p p2, fun W a H ρ σ Q Q2 R q k => h W a H ρ σ _ _ R q fun b H1 W1 a1 l1 R1 q1 => ?_⟩
  cases b with
  | true => rw [if_pos rfl] at q1 ⊢; exact h2 W1 a1 H1 ρ σ Q Q2 (R.next l1 R1) q1 (k.le l1)
  | false => rw [if_neg Bool.false_ne_true] at q1 ⊢; exact k false H1 W1 a1 l1 R1 q1
theorem dt_or (h : DT X ca W0 e tA) (h2 : DTW X ca W0 (.BoolOp .Or (f :: rest) pos) tB) : DTW X ca W0 (.BoolOp .Or (e :: f :: rest) pos) (wOr tA tB) := by
  obtain ⟨te, p, h⟩ := h
  obtain ⟨tf, p2, h2⟩ := h2
  refine ⟨_, pw_or p p2, fun W a H ρ σ Q Q2 R q k => h W a H ρ σ _ _ R q fun b H1 W1 a1 l1 R1 q1 => ?_⟩
  cases b with
  | false => rw [if_neg Bool.false_ne_true] at q1 ⊢; exact h2 W1 a1 H1 ρ σ Q Q2 (R.next l1 R1) q1 (k.le l1)
  | true => rw [if_pos rfl] at q1 ⊢; exact k true H1 W1 a1 l1 R1 q1
theorem dt_not (h : DT X ca W0 e tA) : DT X ca W0 (.UnaryOp .Not e pos) (wNot tA) := by
  obtain ⟨te, p, h⟩ := h
  exact ⟨_, pt_not p, fun W a H ρ σ Q Q2 R q k => h W a H ρ σ _ _ R q fun b H1 W1 a1 l1 R1 q1 => k (!b) H1 W1 a1 l1 R1 q1⟩
/-- and, or, not as values, by truth -/
def wAndV (t u : TE') : TE' := fun ρ a Q => t ρ a fun d a1 => match truD a1 d with | some k => (if k = true then u ρ a1 Q else Q d a1) | none => False
def wOrV (t u : TE') : TE' := fun ρ a Q => t ρ a fun d a1 => match truD a1 d with | some k => (if k = true then Q d a1 else u ρ a1 Q) | none => False
def wNotV (t : TE') : TE' := fun ρ a Q => t ρ a fun d a1 => match truD a1 d with | some k => Q (.bl (!k)) a1 | none => False
theorem de_one {op} (h : DE X ca W0 e ta) : DE X ca W0 (.BoolOp op [e] pos) ta := let ⟨te, p, h⟩ := h; ⟨te, pe_one p, h⟩
theorem de_andV (h : DE X ca W0 e ta) (h2 : DE X ca W0 (.BoolOp .And (f :: rest) pos) tb) : DE X ca W0 (.BoolOp .And (e :: f :: rest) pos) (wAndV ta tb) := by
  obtain ⟨te, p, h⟩ := h
  obtain ⟨tf, p2, h2⟩ := h2
  refine ⟨_, pe_andT p p2, fun W a H ρ σ Q Q2 R q k => h W a H ρ σ _ _ R q fun v H1 W1 a1 d l1 R1 r1 q1 => ?_⟩
  cases e : truD a1 d with
  | none => rw [e] at q1; exact q1.elim
  | some b =>
    simp only [e] at q1
    refine ⟨b, truD_ok R1 r1 e, ?_⟩
    cases b with
    | true => rw [if_pos rfl] at q1 ⊢; exact h2 W1 a1 H1 ρ σ Q Q2 (R.next l1 R1) q1 (k.le l1)
    | false => rw [if_neg Bool.false_ne_true] at q1 ⊢; exact k v H1 W1 a1 d l1 R1 r1 q1
theorem de_orV (h : DE X ca W0 e ta) (h2 : DE X ca W0 (.BoolOp .Or (f :: rest) pos) tb) : DE X ca W0 (.BoolOp .Or (e :: f :: rest) pos) (wOrV ta tb) := by
  obtain ⟨te, p, h⟩ := h
  obtain ⟨tf, p2, h2⟩ := h2
  refine ⟨_, pe_orT p p2, fun W a H ρ σ Q Q2 R q k => h W a H ρ σ _ _ R q fun v H1 W1 a1 d l1 R1 r1 q1 => ?_⟩
  cases e : truD a1 d with
  | none => rw [e] at q1; exact q1.elim
  | some b =>
    simp only [e] at q1
    refine ⟨b, truD_ok R1 r1 e, ?_⟩
    cases b with
    | false => rw [if_neg Bool.false_ne_true] at q1 ⊢; exact h2 W1 a1 H1 ρ σ Q Q2 (R.next l1 R1) q1 (k.le l1)
    | true => rw [if_pos rfl] at q1 ⊢; exact k v H1 W1 a1 d l1 R1 r1 q1
theorem de_notV (h : DE X ca W0 e ta) : DE X ca W0 (.UnaryOp .Not e pos) (wNotV ta) := by
  obtain ⟨te, p, h⟩ := h
  refine ⟨_, pe_notT p, fun W a H ρ σ Q Q2 R q k => h W a H ρ σ _ _ R q fun v H1 W1 a1 d l1 R1 r1 q1 => ?_⟩
  cases e : truD a1 d with
  | none => rw [e] at q1; exact q1.elim
  | some b => simp only [e] at q1; exact ⟨b, truD_ok R1 r1 e, k (.bl (!b)) H1 W1 a1 (.bl (!b)) l1 R1 rfl q1⟩
def wIf (c : TT') (t u : TE') : TE' := fun ρ a Q => c ρ a fun b a1 => if b = true then t ρ a1 Q else u ρ a1 Q
theorem de_if {c : Expr} (hc : DT X ca W0 c tA) (he : DE X ca W0 e ta) (hf : DE X ca W0 f tb) : DE X ca W0 (.IfExp c e f pos) (wIf tA ta tb) := by
  obtain ⟨tc, pc, hc⟩ := hc
  obtain ⟨te, pe, he⟩ := he
  obtain ⟨tf, pf, hf⟩ := hf
  refine ⟨_, pe_ifExp pc pe pf, fun W a H ρ σ Q Q2 R h k => hc W a H ρ σ _ _ R h fun b H1 W1 a1 l1 R1 q1 => ?_⟩
  cases b with
  | true => rw [if_pos rfl] at q1 ⊢; exact he W1 a1 H1 ρ σ Q Q2 (R.next l1 R1) q1 (k.le l1)
  | false => rw [if_neg Bool.false_ne_true] at q1 ⊢; exact hf W1 a1 H1 ρ σ Q Q2 (R.next l1 R1) q1 (k.le l1)
end

/-! ### arguments, displays -/
def wNil : TA' := fun _ a Q => Q [] a
def wCons (t : TE') (u : TA') : TA' := fun ρ a Q => t ρ a fun d a1 => u ρ a1 fun ds a2 => Q (d :: ds) a2
section
variable {X : Cx} {ca : Ci} {W0 : Bw} {pos : Pos} {e f : Expr} {es : List Expr} {ta tb : TE'} {ts : TA'}
theorem da_nil : DA X ca W0 [] wNil := ⟨_, pa_nil, fun W a H ρ σ Q Q2 R h k => k [] H W a [] .refl R.rh rfl h⟩
theorem da_cons (he : DE X ca W0 e ta) (hs : DA X ca W0 es ts) (hq : starEach (e :: es) X.env = (false, eval e X.env) :: starEach es X.env := by rfl) : DA X ca W0 (e :: es) (wCons ta ts) := by
  obtain ⟨te, pe, he⟩ := he
  obtain ⟨tf, pf, hf⟩ := hs
  refine ⟨_, pa_cons pe pf hq, fun W a H ρ σ Q Q2 R h k => he W a H ρ σ _ _ R h fun v H1 W1 a1 d l1 R1 r1 q1 => hf W1 a1 H1 ρ σ _ _ (R.next l1 R1) q1 fun vs H2 W2 a2 ds l2 R2 r2 q2 => ?_⟩
  exact k _ H2 W2 a2 _ (l1.trans l2) R2 (.cons (r1.le l2) r2) q2
/-- a list by value; as a loc; a tuple -/
def wLst (t : TA') : TE' := fun ρ a Q => t ρ a fun ds a1 => Fits ds.length ∧ Q (.lst ds) a1
def wLstM (t : TA') : TE' := fun ρ a Q => t ρ a fun ds a1 => Fits ds.length ∧ Q (.loc a1.length) (a1 ++ [.lst ds])
def wTup (t : TA') : TE' := fun ρ a Q => t ρ a fun ds a1 => Fits ds.length ∧ Q (.tup ds) a1
/-- where a new list stands -/
theorem newLst {K : PySem.W.Frag} {W W1 : Wo} {a : A} {H : Hp} {ds : List D} {vs : List V} {Q : DQ} {Q2 : VK} (l : W.le W1) (R : RH K ca W1 a H) (r : RelDs K W1 ds vs) (hz : Fits ds.length) (q : Q (.lst ds) a) (k : Kont K ca W Q Q2) : ∀ p, H p = none → Q2 (.ref p) (upd H p (.lst vs)) := fun p hp => by
  obtain ⟨l', R'⟩ := R.newF hp (.lst vs)
  exact k _ _ _ a (.lst ds) (l.trans l') R' ⟨p, vs, rfl, upd_same, r.le l', by rw [← r.length]; exact hz⟩ q
theorem newLstM {K : PySem.W.Frag} {W W1 : Wo} {a : A} {H : Hp} {ds : List D} {vs : List V} {Q : DQ} {Q2 : VK} (l : W.le W1) (R : RH K ca W1 a H) (r : RelDs K W1 ds vs) (q : Q (.loc a.length) (a ++ [.lst ds])) (k : Kont K ca W Q Q2) : ∀ p, H p = none → Q2 (.ref p) (upd H p (.lst vs)) := fun p hp => by
  refine k _ _ (W1.add p) _ (.loc a.length) (l.trans (W1.add_le p)) (R.newL (ao := .lst ds) hp ⟨vs, upd_same, r.le (W1.add_le p)⟩) ⟨?_, ?_⟩ q
  · rw [← R.len]; exact Nat.lt_succ_self _
  · rw [← R.len, Wo.add_ι]
theorem newTup {K : PySem.W.Frag} {W W1 : Wo} {a : A} {H : Hp} {ds : List D} {vs : List V} {Q : DQ} {Q2 : VK} (l : W.le W1) (R : RH K ca W1 a H) (r : RelDs K W1 ds vs) (hz : Fits ds.length) (q : Q (.tup ds) a) (k : Kont K ca W Q Q2) : ∀ p, H p = none → Q2 (.ref p) (upd H p (.tup vs)) := fun p hp => by
  obtain ⟨l', R'⟩ := R.newF hp (.tup vs)
  exact k _ _ _ a (.tup ds) (l.trans l') R' ⟨p, vs, rfl, upd_same, r.le l', by rw [← r.length]; exact hz⟩ q
theorem de_lst (h : DA X ca W0 es ts) : DE X ca W0 (.List es pos) (wLst ts) := by
  obtain ⟨te, pe, he⟩ := h
  refine ⟨_, pe_lst pe, fun W a H ρ σ Q Q2 R h k => he W a H ρ σ _ _ R h fun vs H1 W1 a1 ds l1 R1 r1 q1 => ⟨by rw [← r1.length]; exact q1.1.le, newLst l1 R1 r1 q1.1 q1.2 k⟩⟩
theorem de_lstM (h : DA X ca W0 es ts) : DE X ca W0 (.List es pos) (wLstM ts) := by
  obtain ⟨te, pe, he⟩ := h
  refine ⟨_, pe_lst pe, fun W a H ρ σ Q Q2 R h k => he W a H ρ σ _ _ R h fun vs H1 W1 a1 ds l1 R1 r1 q1 => ⟨by rw [← r1.length]; exact q1.1.le, newLstM l1 R1 r1 q1.2 k⟩⟩
theorem de_tup {x1} (h : DA X ca W0 es ts) : DE X ca W0 (.Tuple es x1 pos) (wTup ts) := by
  obtain ⟨te, pe, he⟩ := h
  refine ⟨_, pe_tup pe, fun W a H ρ σ Q Q2 R h k => he W a H ρ σ _ _ R h fun vs H1 W1 a1 ds l1 R1 r1 q1 => ⟨by rw [← r1.length]; exact q1.1.le, newTup l1 R1 r1 q1.1 q1.2 k⟩⟩
/-- from here on a list or a dict that changed is a value -/
def wFrz (t : TE') : TE' := fun ρ a Q => t ρ a fun d a1 => match d with
  | .loc n => match a1[n]? with
    | some (.lst ds) => Fits ds.length ∧ Q (.lst ds) (a1.set n .dead)
    | some (.dic t kvs) => Fits kvs.length ∧ Q (.dic t (kvs.map (·.1)) (kvs.map (·.2))) (a1.set n .dead)
    | _ => False
  | d => Q d a1
theorem de_frz (h : DE X ca W0 e ta) : DE X ca W0 e (wFrz ta) := by
  obtain ⟨te, pe, he⟩ := h
  refine ⟨_, pe, fun W a H ρ σ Q Q2 R h k => he W a H ρ σ _ _ R h fun v H1 W1 a1 d l1 R1 r1 q1 => ?_⟩
  cases d with
  | loc n =>
    obtain ⟨hn, ev⟩ := r1
    simp only at q1
    cases e : a1[n]? with
    | none => rw [e] at q1; exact q1.elim
    | some ao =>
      rw [e] at q1
      cases ao with
      | dead => exact q1.elim
      | obj _ _ => exact q1.elim
      | lst ds =>
        obtain ⟨hz, q1⟩ := q1
        obtain ⟨vs, hH, rs⟩ := R1.obj n _ e
        obtain ⟨l', R'⟩ := R1.freeze e hH
        exact k _ H1 _ _ (.lst ds) (l1.trans l') R' ⟨_, vs, ev, upd_same, rs.le l', by rw [← rs.length]; exact hz⟩ q1
      | dic t kvs =>
        obtain ⟨hz, q1⟩ := q1
        obtain ⟨ho, hH, rs⟩ := R1.obj n _ e
        obtain ⟨l', R'⟩ := R1.freeze e hH
        refine k _ H1 _ _ (.dic _ _ _) (l1.trans l') R' ⟨_, ev, by rw [List.length_map]; exact hz, ?_⟩ q1
        rcases rs.le l'.tosub with ⟨ht, kv, e1, e2, e3⟩ | ⟨ht, kv, e1, e2, e3⟩
        · subst e1; exact .inl ⟨ht, kv, upd_same, e2, e3⟩
        · subst e1; exact .inr ⟨ht, kv, upd_same, e2, e3⟩
  | _ => exact k v H1 W1 a1 _ l1 R1 r1 q1
end
end DW
set_option Elab.async false
set_option linter.all false
set_option maxRecDepth 100000
set_option maxHeartbeats 1000000
namespace DW
open PySem PySem.Spec PyProof.Rows L2
/-! ## equality of data -/
mutual
def pyF : D → Option PyData
  | .non => some .none
  | .bl b => some (.bool b)
  | .int i => some (.int i)
  | .str x => some (.str x)
  | .lst ds => (pyFs ds).map .list
  | .tup ds => (pyFs ds).map .tuple
  | .ktup ds => (pyFs ds).map .tuple
  | _ => none
def pyFs : List D → Option (List PyData)
  | [] => some []
  | d :: ds => match pyF d with | none => none | some p => (pyFs ds).map (p :: ·)
end
def pyOf (a : A) : D → Option PyData
  | .loc n => match a[n]? with | some (.lst ds) => (pyFs ds).map .list | _ => none
  | .scr ns => (pyFs (ns.map D.int)).map .list
  | d => pyF d
def flatD : D → Bool
  | .non => true | .bl _ => true | .int _ => true | .str _ => true | _ => false
def eqFlat : D → D → Bool
  | .non, .non => true
  | .bl x, .bl y => x == y
  | .bl x, .int y => (if x then 1 else 0) == y
  | .int x, .bl y => x == (if y then 1 else 0)
  | .int x, .int y => decide (x = y)
  | .str x, .str y => decide (x = y)
  | _, _ => false
def eqP (a : A) (d e : D) : Option Bool := match pyOf a d, pyOf a e with
  | some p, some q => if (SeqAt.shaped p && SeqAt.shaped q) = true then some (PyData.eqv p q) else none
  | _, _ => none
def eqD (a : A) (d e : D) : Option Bool := if (flatD d && flatD e) = true then some (eqFlat d e) else eqP a d e
section
variable {K : PySem.W.Frag} {ca : Ci} {W : Wo} {a : A} {H : Hp}
mutual
theorem pyF_dp : ∀ (d : D) (v : V) (p : PyData), RelD K W d v → pyF d = some p → Dp K W.G v p
  | .non, v, p, r, h => by cases h; rw [show v = V.non from r]; exact .non
  | .bl b, v, p, r, h => by cases h; rw [show v = V.bl b from r]; exact .bl b
  | .int i, v, p, r, h => by cases h; rw [show v = V.int i from r]; exact .int i
  | .str x, v, p, r, h => by cases h; rw [show v = V.str x from r]; exact .str x
  | .lst ds, v, p, r, h => by
    obtain ⟨b, vs, e, g, rs, _⟩ := r
    unfold pyF at h
    cases e2 : pyFs ds with
    | none => rw [e2] at h; cases h
    | some ps => rw [e2] at h; cases h; subst e; exact .lst (SqL.of g) (pyFs_dp ds vs ps rs e2)
  | .tup ds, v, p, r, h => by
    obtain ⟨b, vs, e, g, rs, _⟩ := r
    unfold pyF at h
    cases e2 : pyFs ds with
    | none => rw [e2] at h; cases h
    | some ps => rw [e2] at h; cases h; subst e; exact .tup (SqT.of g) (pyFs_dp ds vs ps rs e2)
  | .ktup ds, v, p, r, h => by
    obtain ⟨b, vs, e, g, rs⟩ := r
    unfold pyF at h
    cases e2 : pyFs ds with
    | none => rw [e2] at h; cases h
    | some ps => rw [e2] at h; cases h; subst e; exact .tup g (pyFs_dp ds vs ps rs e2)
  | .loc _, v, p, r, h => by cases h
  | .raw _, v, p, r, h => by cases h
  | .scr _, v, p, r, h => by cases h
  | .dic _ _ _, v, p, r, h => by cases h
theorem pyFs_dp : ∀ (ds : List D) (vs : List V) (ps : List PyData), RelDs K W ds vs → pyFs ds = some ps → DpAll K W.G vs ps
  | [], vs, ps, r, h => by cases h; rw [show vs = [] from r]; exact .nil
  | d :: ds, vs, ps, r, h => by
    obtain ⟨v, ws, e, r, rs⟩ := r
    unfold pyFs at h
    cases e1 : pyF d with
    | none => rw [e1] at h; cases h
    | some q =>
      rw [e1] at h
      cases e2 : pyFs ds with
      | none => rw [e2] at h; cases h
      | some qs => rw [e2] at h; cases h; subst e; exact .cons (pyF_dp d v q r e1) (pyFs_dp ds ws qs rs e2)
end
/-- the heap itself as what is frozen -/
theorem RH.up (R : RH K ca W a H) : W.sub ⟨H, W.ι, W.N, W.Z⟩ := ⟨R.sub, Nat.le_refl _, fun _ _ => rfl⟩
theorem pyOf_dp (R : RH K ca W a H) {d : D} {v : V} {p : PyData} (r : RelD K W d v) (h : pyOf a d = some p) : Dp K H v p := by
  have base : pyF d = some p → Dp K H v p := fun h => pyF_dp (W := ⟨H, W.ι, W.N, W.Z⟩) d v p (RelD.mono R.up _ _ r) h
  cases d with
  | loc n =>
    obtain ⟨hn, e⟩ := r
    unfold pyOf at h
    cases q : a[n]? with
    | none => simp [q] at h
    | some ao =>
      cases ao with
      | lst es =>
        simp only [q] at h
        cases e2 : pyFs es with
        | none => rw [e2] at h; cases h
        | some ps =>
          rw [e2] at h; cases h
          obtain ⟨vs, hH, rs⟩ := R.obj n _ q
          subst e
          exact .lst (SqL.of hH) (pyFs_dp (W := ⟨H, W.ι, W.N, W.Z⟩) es vs ps (rs.mono' R.up) e2)
      | dic _ _ => simp [q] at h
      | obj _ _ => simp [q] at h
      | dead => simp [q] at h
  | scr ns =>
    obtain ⟨b, e, g⟩ := r
    replace h : (pyFs (ns.map D.int)).map PyData.list = some p := h
    cases e2 : pyFs (ns.map D.int) with
    | none => rw [e2] at h; cases h
    | some ps =>
      rw [e2] at h; cases h
      subst e
      exact .lst (SqL.le R.sub g) (pyFs_dp (W := ⟨H, W.ι, W.N, W.Z⟩) _ _ ps RelDs.ofInts e2)
  | non => exact base h
  | bl _ => exact base h
  | int _ => exact base h
  | str _ => exact base h
  | raw _ => exact base h
  | lst _ => exact base h
  | tup _ => exact base h
  | ktup _ => exact base h
  | dic _ _ _ => exact base h
end
def rEq (d e : D) (a : A) (Q : DQ) : Prop := match eqD a d e with | some b => Q (.bl b) a | none => False
def rNe (d e : D) (a : A) (Q : DQ) : Prop := match eqD a d e with | some b => Q (.bl (!b)) a | none => False
theorem Kont.bl {K : PySem.W.Frag} {ca : Ci} {W : Wo} {a : A} {H : Hp} {Q : DQ} {Q2 : VK} (k : Kont K ca W Q Q2) (R : RH K ca W a H) {b : Bool} (q : Q (.bl b) a) : Q2 (.bl b) H := k _ H W a (.bl b) .refl R rfl q
theorem Kont.int {K : PySem.W.Frag} {ca : Ci} {W : Wo} {a : A} {H : Hp} {Q : DQ} {Q2 : VK} (k : Kont K ca W Q Q2) (R : RH K ca W a H) {b : Int} (q : Q (.int b) a) : Q2 (.int b) H := k _ H W a (.int b) .refl R rfl q
theorem Kont.str {K : PySem.W.Frag} {ca : Ci} {W : Wo} {a : A} {H : Hp} {Q : DQ} {Q2 : VK} (k : Kont K ca W Q Q2) (R : RH K ca W a H) {b : Str} (q : Q (.str b) a) : Q2 (.str b) H := k _ H W a (.str b) .refl R rfl q
theorem eqD_none {P : Bool → Prop} {o : Option Bool} (h : match o with | some b => P b | none => False) : ∃ b, o = some b ∧ P b := by
  cases o with
  | none => exact h.elim
  | some b => exact ⟨b, rfl, h⟩
theorem sh_bl (b : Bool) : SeqAt.shaped (.bool b) = true := by simp [SeqAt.shaped, PyData.canLay0, PyData.depth]
theorem sh_int (b : Int) : SeqAt.shaped (.int b) = true := by simp [SeqAt.shaped, PyData.canLay0, PyData.depth]
theorem flat_scal {K : PySem.W.Frag} {W : Wo} {H : Hp} {d e : D} {x y : V} (hf : (flatD d && flatD e) = true) (rx : RelD K W d x) (ry : RelD K W e y) :
    (scal x y = true ∧ decide (x = y) = eqFlat d e) ∨ ∃ p q, Dp K H x p ∧ Dp K H y q ∧ SeqAt.shaped p = true ∧ SeqAt.shaped q = true ∧ PyData.eqv p q = eqFlat d e := by
  rw [Bool.and_eq_true] at hf
  obtain ⟨h1, h2⟩ := hf
  cases d <;> first | (cases h1; done) | skip
  all_goals (cases e <;> first | (cases h2; done) | skip)
  all_goals (first | rw [show x = V.non from rx] | rw [show x = V.bl _ from rx] | rw [show x = V.int _ from rx] | rw [show x = V.str _ from rx])
  all_goals (first | rw [show y = V.non from ry] | rw [show y = V.bl _ from ry] | rw [show y = V.int _ from ry] | rw [show y = V.str _ from ry])
  all_goals first
    | exact .inl ⟨rfl, dec_bl⟩
    | (refine .inl ⟨rfl, ?_⟩; simp [eqFlat]; done)
    | exact .inr ⟨.bool _, .int _, .bl _, .int _, sh_bl _, sh_int _, rfl⟩
    | exact .inr ⟨.int _, .bool _, .int _, .bl _, sh_int _, sh_bl _, rfl⟩
section
variable {X : Cx} {ca : Ci}
abbrev rrEq (K : PySem.W.Frag) : R2 := fun x y H Q => L2.rEq x y H Q ∨ rEqD K x y H Q
abbrev rrNe (K : PySem.W.Frag) : R2 := fun x y H Q => L2.rNe x y H Q ∨ rNeD K x y H Q
theorem oo_eq (hu : X.A.units + 64 < cLine) : OpR X (compareOp .Eq) (rrEq X.K) := OpR.or op_eq (op_eqD hu)
theorem oo_ne (hu : X.A.units + 64 < cLine) : OpR X (compareOp .NotEq) (rrNe X.K) := OpR.or op_ne (op_neD hu)
theorem od_eq {K : PySem.W.Frag} : Op2 K ca (rrEq K) rEq := by
  intro W a H d e x y Q Q2 R rx ry h k
  obtain ⟨b, hb, q⟩ := eqD_none h
  unfold eqD at hb
  by_cases hf : (flatD d && flatD e) = true
  · rw [if_pos hf] at hb
    cases hb
    rcases flat_scal (H := H) hf rx ry with ⟨h1, h2⟩ | ⟨p, p', h1, h2, h3, h4, h5⟩
    · exact .inl ⟨h1, by rw [h2]; exact k.bl R q⟩
    · exact .inr ⟨p, p', h1, h2, h3, h4, by rw [h5]; exact k.bl R q⟩
  · rw [if_neg hf] at hb
    unfold eqP at hb
    cases e1 : pyOf a d with
    | none => simp [e1] at hb
    | some p =>
      cases e2 : pyOf a e with
      | none => simp [e1, e2] at hb
      | some p' =>
        simp only [e1, e2] at hb
        by_cases hs : (SeqAt.shaped p && SeqAt.shaped p') = true
        · rw [if_pos hs] at hb
          cases hb
          rw [Bool.and_eq_true] at hs
          exact .inr ⟨p, p', pyOf_dp R rx e1, pyOf_dp R ry e2, hs.1, hs.2, k.bl R q⟩
        · rw [if_neg hs] at hb; cases hb
theorem od_ne {K : PySem.W.Frag} : Op2 K ca (rrNe K) rNe := by
  intro W a H d e x y Q Q2 R rx ry h k
  obtain ⟨b, hb, q⟩ := eqD_none (P := fun b => Q (.bl (!b)) a) h
  unfold eqD at hb
  by_cases hf : (flatD d && flatD e) = true
  · rw [if_pos hf] at hb
    cases hb
    rcases flat_scal (H := H) hf rx ry with ⟨h1, h2⟩ | ⟨p, p', h1, h2, h3, h4, h5⟩
    · exact .inl ⟨h1, by rw [h2]; exact k.bl R q⟩
    · exact .inr ⟨p, p', h1, h2, h3, h4, by rw [h5]; exact k.bl R q⟩
  · rw [if_neg hf] at hb
    unfold eqP at hb
    cases e1 : pyOf a d with
    | none => simp [e1] at hb
    | some p =>
      cases e2 : pyOf a e with
      | none => simp [e1, e2] at hb
      | some p' =>
        simp only [e1, e2] at hb
        by_cases hs : (SeqAt.shaped p && SeqAt.shaped p') = true
        · rw [if_pos hs] at hb
          cases hb
          rw [Bool.and_eq_true] at hs
          exact .inr ⟨p, p', pyOf_dp R rx e1, pyOf_dp R ry e2, hs.1, hs.2, k.bl R q⟩
        · rw [if_neg hs] at hb; cases hb
end

/-! ## operators -/
def rInt (C : Int → Int → Prop) (g : Int → Int → Int) (d e : D) (a : A) (Q : DQ) : Prop := match d with
  | .int i => match e with | .int j => C i j ∧ Q (.int (g i j)) a | _ => False
  | _ => False
def rIntB (g : Int → Int → Bool) (d e : D) (a : A) (Q : DQ) : Prop := match d with
  | .int i => match e with | .int j => Q (.bl (g i j)) a | _ => False
  | _ => False
theorem od_int {K : PySem.W.Frag} {ca : Ci} {C : Int → Int → Prop} {g : Int → Int → Int} : Op2 K ca (rI C fun i j => .int (g i j)) (rInt C g) := by
  intro W a H d e x y Q Q2 R rx ry h k
  cases d <;> first | exact (show False from h).elim | skip
  cases e <;> first | exact (show False from h).elim | skip
  rw [show x = V.int _ from rx, show y = V.int _ from ry]
  exact ⟨_, _, rfl, rfl, h.1, k.int R h.2⟩
theorem od_int0 {K : PySem.W.Frag} {ca : Ci} {g : Int → Int → Int} : Op2 K ca (rI0 fun i j => .int (g i j)) (rInt (fun _ _ => True) g) := by
  intro W a H d e x y Q Q2 R rx ry h k
  cases d <;> first | exact (show False from h).elim | skip
  cases e <;> first | exact (show False from h).elim | skip
  rw [show x = V.int _ from rx, show y = V.int _ from ry]
  exact ⟨_, _, rfl, rfl, k.int R h.2⟩
theorem od_intB {K : PySem.W.Frag} {ca : Ci} {g : Int → Int → Bool} : Op2 K ca (rI0 fun i j => .bl (g i j)) (rIntB g) := by
  intro W a H d e x y Q Q2 R rx ry h k
  cases d <;> first | exact (show False from h).elim | skip
  cases e <;> first | exact (show False from h).elim | skip
  rw [show x = V.int _ from rx, show y = V.int _ from ry]
  exact ⟨_, _, rfl, rfl, k.bl R h⟩
theorem Op2.or {K : PySem.W.Frag} {ca : Ci} {rr rr' : R2} {r r' : D → D → A → DQ → Prop} (h : Op2 K ca rr r) (h' : Op2 K ca rr' r') : Op2 K ca (fun x y H Q => rr x y H Q ∨ rr' x y H Q) (fun d e a Q => r d e a Q ∨ r' d e a Q) :=
  fun W a H d e x y Q Q2 R rx ry q k => q.imp (fun q => h W a H d e x y Q Q2 R rx ry q k) (fun q => h' W a H d e x y Q Q2 R rx ry q k)
theorem Op2.imp {K : PySem.W.Frag} {ca : Ci} {rr : R2} {r r' : D → D → A → DQ → Prop} (h : Op2 K ca rr r) (i : ∀ d e a Q, r' d e a Q → r d e a Q) : Op2 K ca rr r' :=
  fun W a H d e x y Q Q2 R rx ry q k => h W a H d e x y Q Q2 R rx ry (i _ _ _ _ q) k

/-- + -/
def rAdd (d e : D) (a : A) (Q : DQ) : Prop := match d with
  | .int i => match e with | .int j => Q (.int (i + j)) a | _ => False
  | .str x => match e with | .str y => Fits (x.length + y.length) ∧ Q (.str (x ++ y)) a | _ => False
  | .tup xs => match e with | .tup ys => Fits (xs.length + ys.length) ∧ Q (.tup (xs ++ ys)) a | _ => False
  | d => match vwL a d with
    | some xs => match vwL a e with | some ys => Fits (xs.length + ys.length) ∧ Q (.lst (xs ++ ys)) a | none => False
    | none => False
/-- t + u of tuples -/
def rCatT2 (K : PySem.W.Frag) : R2 := fun x y H Q => ∃ a b xs ys, x = .ref a ∧ y = .ref b ∧ SqT K H a xs ∧ SqT K H b ys ∧ xs.length + ys.length ≤ sizeLine ∧
  (xs = [] → Q (.ref b) H) ∧ (xs ≠ [] → ys = [] → Q (.ref a) H) ∧ (ys ≠ [] → ∀ p, H p = none → Q (.ref p) (upd H p (.tup (xs ++ ys))))
section
variable {X : Cx}
theorem op_catT2 : OpR X (binaryOp .Add) (rCatT2 X.K) := by
  intro pins s σ H x y v u Q I rx ry h
  obtain ⟨a, b, xs, ys, rfl, rfl, ha, hb, hz, q0, q1, q2⟩ := h
  cases rx
  cases ry
  by_cases hx : xs = []
  · obtain ⟨its, r1, p1, _⟩ := I.tuple ha
    obtain ⟨its2, r2, p2, _⟩ := I.tuple hb
    obtain ⟨⟨cls, dd, data, sl⟩, ho, hc, n, hd⟩ := id p1
    obtain ⟨⟨cls2, dd2, data2, sl2⟩, ho2, hc2, n2, hd2⟩ := id p2
    simp only at hc hd hc2 hd2
    subst hc hd hc2 hd2
    have hv : its = [] := r1.nil_iff.mpr hx
    exact concat_meets ⟨_, ho, rfl⟩ ⟨_, ho2, rfl⟩ noFill_tuple_add seq_tuple_add PySem.F.slot_tuple_add PySem.F.entry_tuple_add (PySem.F.args_tuple_add_2 _ _)
      (tuple_addW0 a b its.toArray its2.toArray n n2 dd dd2 sl sl2 (by simp [hv])) ⟨ho, ho2, ⟨.ref b, H, I, rfl, q0 hx⟩⟩
  · exact op_catT pins s σ H (.ref a) (.ref b) _ _ Q I rfl rfl ⟨a, b, xs, ys, rfl, rfl, ha, hb, hx, hz, q1 hx, q2⟩
abbrev rrAdd (K : PySem.W.Frag) : R2 := fun x y H Q => (rI0 (fun i j => .int (i + j))) x y H Q ∨ (∃ i j, x = .str i ∧ y = .str j ∧ i.length + j.length ≤ sizeLine ∧ Q (.str (i ++ j)) H) ∨ rCat x y H Q ∨ rCatT2 K x y H Q
theorem oo_add : OpR X (binaryOp .Add) (rrAdd X.K) := OpR.or op_add (OpR.or op_add_str (OpR.or op_cat op_catT2))
end
theorem od_add {K : PySem.W.Frag} {ca : Ci} : Op2 K ca (rrAdd K) rAdd := by
  intro W a H d e x y Q Q2 R rx ry h k
  have lists : (match vwL a d with | some xs => (match vwL a e with | some ys => Fits (xs.length + ys.length) ∧ Q (.lst (xs ++ ys)) a | none => False) | none => False) → rrAdd K x y H Q2 := fun h => by
    cases e1 : vwL a d with
    | none => simp [e1] at h
    | some xs =>
      cases e2 : vwL a e with
      | none => simp [e1, e2] at h
      | some ys =>
        simp only [e1, e2] at h
        obtain ⟨p, vs, ex, g, r⟩ := R.vwL rx e1
        obtain ⟨p', us, ey, g', r'⟩ := R.vwL ry e2
        subst ex ey
        exact .inr (.inr (.inl ⟨p, p', vs, us, rfl, rfl, g, g', by rw [← r.length, ← r'.length]; exact h.1.le, newLst .refl R (r.append r') (by rw [List.length_append]; exact h.1) h.2 k⟩))
  cases d with
  | int i =>
    cases e <;> first | exact (show False from h).elim | skip
    rw [show x = V.int _ from rx, show y = V.int _ from ry]
    exact .inl ⟨_, _, rfl, rfl, k.int R h⟩
  | str i =>
    cases e <;> first | exact (show False from h).elim | skip
    rw [show x = V.str _ from rx, show y = V.str _ from ry]
    exact .inr (.inl ⟨_, _, rfl, rfl, h.1.le, k.str R h.2⟩)
  | tup xs =>
    cases e <;> first | exact (show False from h).elim | skip
    rename_i ys
    obtain ⟨hz, h⟩ := h
    obtain ⟨p, vs, ex, g, r⟩ := R.vwT rx rfl
    obtain ⟨p', us, ey, g', r'⟩ := R.vwT ry rfl
    have rx' := rx
    have ry' := ry
    subst ex ey
    refine .inr (.inr (.inr ⟨p, p', vs, us, rfl, rfl, g, g', by rw [← r.length, ← r'.length]; exact hz.le, fun e => ?_, fun e1 e2 => ?_, fun e => newTup .refl R (r.append r') (by rw [List.length_append]; exact hz) h k⟩))
    · have : xs = [] := List.eq_nil_of_length_eq_zero (by rw [r.length, e]; rfl)
      subst this
      exact k _ H W a _ .refl R ry' h
    · have : ys = [] := List.eq_nil_of_length_eq_zero (by rw [r'.length, e2]; rfl)
      subst this
      rw [List.append_nil] at h
      exact k _ H W a _ .refl R rx' h
  | lst _ => exact lists h
  | ktup _ => exact lists h
  | loc _ => exact lists h
  | non => exact lists h
  | bl _ => exact lists h
  | raw _ => exact lists h
  | scr _ => exact lists h
  | dic _ _ _ => exact lists h
/-- * -/
def rMul (d e : D) (a : A) (Q : DQ) : Prop := match e with
  | .int j => match d with
    | .int i => CMul i j ∧ Q (.int (i * j)) a
    | .tup xs => xs ≠ [] ∧ 2 ≤ j ∧ j ≤ 1000 ∧ xs.length ≤ 1000 ∧ Q (.tup (List.replicate j.toNat xs).flatten) a
    | d => match vwL a d with
      | some xs => -(2 ^ 63) ≤ j ∧ j < 2 ^ 63 ∧ Fits (xs.length * j.toNat) ∧ Q (.lst (List.replicate j.toNat xs).flatten) a
      | none => False
  | _ => False
abbrev rrMul (K : PySem.W.Frag) : R2 := fun x y H Q => (rI CMul (fun i j => .int (i * j))) x y H Q ∨ rRep x y H Q ∨ rRepT K x y H Q
theorem oo_mul {X : Cx} : OpR X (binaryOp .Mult) (rrMul X.K) := OpR.or op_mul (OpR.or op_rep op_repT)
theorem len_rep {α : Type} (xs : List α) (k : Nat) : (List.replicate k xs).flatten.length = xs.length * k := by
  induction k with
  | zero => simp
  | succ k ih => rw [List.replicate_succ, List.flatten_cons, List.length_append, ih, Nat.mul_succ]; omega
theorem od_mul {K : PySem.W.Frag} {ca : Ci} : Op2 K ca (rrMul K) rMul := by
  intro W a H d e x y Q Q2 R rx ry h k
  cases e <;> first | exact (show False from h).elim | skip
  rename_i j
  rw [show y = V.int _ from ry]
  have lists : (match vwL a d with | some xs => -(2 ^ 63) ≤ j ∧ j < 2 ^ 63 ∧ Fits (xs.length * j.toNat) ∧ Q (.lst (List.replicate j.toNat xs).flatten) a | none => False) → rrMul K x (.int j) H Q2 := fun h => by
    cases e1 : vwL a d with
    | none => simp [e1] at h
    | some xs =>
      simp only [e1] at h
      obtain ⟨p, vs, ex, g, r⟩ := R.vwL rx e1
      subst ex
      exact .inr (.inl ⟨p, j, vs, rfl, rfl, g, h.1, h.2.1, by rw [← r.length]; exact h.2.2.1.le, newLst .refl R (r.rep _) (by rw [len_rep]; exact h.2.2.1) h.2.2.2 k⟩)
  cases d with
  | int i =>
    rw [show x = V.int _ from rx]
    exact .inl ⟨_, _, rfl, rfl, h.1, k.int R h.2⟩
  | tup xs =>
    obtain ⟨h1, h2, h3, h4, h5⟩ := h
    obtain ⟨p, vs, ex, g, r⟩ := R.vwT rx rfl
    subst ex
    refine .inr (.inr ⟨p, j, vs, rfl, rfl, g, fun e => h1 (List.eq_nil_of_length_eq_zero (by rw [r.length, e]; rfl)), h2, h3, by rw [← r.length]; exact h4, newTup .refl R (r.rep _) ⟨?_⟩ h5 k⟩)
    rw [len_rep, sizeLine_eq]
    have := Nat.mul_le_mul h4 (show j.toNat ≤ 1000 by omega)
    omega
  | lst _ => exact lists h
  | ktup _ => exact lists h
  | loc _ => exact lists h
  | non => exact lists h
  | bl _ => exact lists h
  | raw _ => exact lists h
  | scr _ => exact lists h
  | dic _ _ _ => exact lists h
  | str _ => exact lists h

/-- is, is not: None or a bool on the right -/
def isNon : D → Bool
  | .non => true
  | _ => false
def isD (d e : D) : Option Bool := match e with
  | .non => some (isNon d)
  | .bl b => match d with | .bl c => some (decide (c = b)) | _ => none
  | _ => none
def rIs (d e : D) (a : A) (Q : DQ) : Prop := match isD d e with | some b => Q (.bl b) a | none => False
def rIsNot (d e : D) (a : A) (Q : DQ) : Prop := match isD d e with | some b => Q (.bl (!b)) a | none => False
theorem nonD {K : PySem.W.Frag} {W : Wo} {d : D} {x : V} (r : RelD K W d x) (hr : ∀ v, d ≠ .raw v) : decide (x = .non) = isNon d := by
  cases d with
  | non => rw [show x = V.non from r]; rfl
  | bl b => rw [show x = V.bl b from r]; rfl
  | int b => rw [show x = V.int b from r]; rfl
  | str b => rw [show x = V.str b from r]; rfl
  | raw v => exact absurd rfl (hr v)
  | loc n => rw [show x = V.ref _ from r.2]; rfl
  | lst _ => obtain ⟨p, _, e, _⟩ := r; rw [e]; rfl
  | tup _ => obtain ⟨p, _, e, _⟩ := r; rw [e]; rfl
  | ktup _ => obtain ⟨p, _, e, _⟩ := r; rw [e]; rfl
  | scr _ => obtain ⟨p, e, _⟩ := r; rw [e]; rfl
  | dic _ _ _ => obtain ⟨p, e, _⟩ := r; rw [e]; rfl
abbrev rrIs : R2 := fun x y H Q => (y = .non ∧ Q (.bl (decide (x = .non))) H) ∨ rIsB x y H Q
abbrev rrIsNot : R2 := fun x y H Q => (y = .non ∧ Q (.bl (!decide (x = .non))) H) ∨ rNotB x y H Q
theorem oo_is {X : Cx} : OpR X (compareOp .Is) rrIs := OpR.or op_isN op_isBl
theorem oo_isNot {X : Cx} : OpR X (compareOp .IsNot) rrIsNot := OpR.or op_notN op_notBl
def noRaw : D → Prop
  | .raw _ => False
  | _ => True
theorem od_is {K : PySem.W.Frag} {ca : Ci} : Op2 K ca rrIs (fun d e a Q => noRaw d ∧ rIs d e a Q) := by
  intro W a H d e x y Q Q2 R rx ry h k
  obtain ⟨hn, h⟩ := h
  obtain ⟨b, hb, q⟩ := eqD_none (P := fun b => Q (.bl b) a) h
  have hr : ∀ v, d ≠ .raw v := fun v z => by subst z; exact hn
  cases e <;> first | (cases hb; done) | skip
  · rw [show y = V.non from ry]
    cases hb
    exact .inl ⟨rfl, by rw [nonD rx hr]; exact k.bl R q⟩
  · cases d <;> first | (cases hb; done) | skip
    rw [show y = V.bl _ from ry, show x = V.bl _ from rx]
    cases hb
    exact .inr ⟨_, _, rfl, rfl, k.bl R q⟩
theorem od_isNot {K : PySem.W.Frag} {ca : Ci} : Op2 K ca rrIsNot (fun d e a Q => noRaw d ∧ rIsNot d e a Q) := by
  intro W a H d e x y Q Q2 R rx ry h k
  obtain ⟨hn, h⟩ := h
  obtain ⟨b, hb, q⟩ := eqD_none (P := fun b => Q (.bl (!b)) a) h
  have hr : ∀ v, d ≠ .raw v := fun v z => by subst z; exact hn
  cases e <;> first | (cases hb; done) | skip
  · rw [show y = V.non from ry]
    cases hb
    exact .inl ⟨rfl, by rw [nonD rx hr]; exact k.bl R q⟩
  · cases d <;> first | (cases hb; done) | skip
    rw [show y = V.bl _ from ry, show x = V.bl _ from rx]
    cases hb
    exact .inr ⟨_, _, rfl, rfl, k.bl R q⟩
end DW
set_option Elab.async false
set_option linter.all false
set_option maxRecDepth 100000
set_option maxHeartbeats 1000000
namespace DW
open PySem PySem.Spec PyProof.Rows L2
/-! ## dicts -/
def isKey1 : D → Bool
  | .int _ => true
  | .str _ => true
  | _ => false
def isKey (t : Bool) (e : D) : Bool := if t = true then (match e with | .tup ds => ds.all isKey1 | _ => false) else isKey1 e
def look (kvs : List (D × D)) (e : D) : Option D := (kvs.find? fun p => D.eq p.1 e).map (·.2)
def putD (kvs : List (D × D)) (e d : D) : List (D × D) := if (kvs.any fun p => D.eq p.1 e) = true then kvs.map (fun p => if D.eq p.1 e = true then (p.1, d) else p) else kvs ++ [(e, d)]
theorem keyD_inj {k k' : Key} (h : keyD k = keyD k') : k = k' := by
  cases k <;> cases k' <;> simp_all [keyD]
theorem keyDs_inj : ∀ {ks ks' : List Key}, ks.map keyD = ks'.map keyD → ks = ks'
  | [], [], _ => rfl
  | k :: ks, k' :: ks', h => by
    simp only [List.map_cons, List.cons.injEq] at h
    rw [keyD_inj h.1, keyDs_inj h.2]
  | [], _ :: _, h => by simp at h
  | _ :: _, [], h => by simp at h
theorem keysD_inj {k k' : List Key} (h : keysD k = keysD k') : k = k' := by
  unfold keysD at h
  exact keyDs_inj (D.tup.inj h)
section
variable {K : PySem.W.Frag} {W : Wo} {κ : Type} [DecidableEq κ] {f : κ → D} (hf : ∀ k k', f k = f k' → k = k')
include hf
theorem look_rel (k : κ) : ∀ {kvs : List (D × D)} {kv : List (κ × V)}, kvs.map (·.1) = kv.map (fun p => f p.1) → RelDs K W (kvs.map (·.2)) (kv.map (·.2)) →
    (look kvs (f k) = none ∧ valV kv k = none) ∨ ∃ d v, look kvs (f k) = some d ∧ valV kv k = some v ∧ RelD K W d v
  | [], [], _, _ => .inl ⟨rfl, rfl⟩
  | [], _ :: _, h, _ => by simp at h
  | _ :: _, [], h, _ => by simp at h
  | p :: kvs, q :: kv, h, r => by
    simp only [List.map_cons, List.cons.injEq] at h
    obtain ⟨v, ws, e, r1, rs⟩ := r
    simp only [List.map_cons, List.cons.injEq] at e
    obtain ⟨e1, e2⟩ := e
    by_cases hk : q.1 = k
    · refine .inr ⟨p.2, q.2, ?_, valV_pos hk, by rw [e1]; exact r1⟩
      have : D.eq p.1 (f k) = true := (D.eq_iff _ _).mpr (by rw [h.1, hk])
      simp [look, List.find?_cons, this]
    · have : D.eq p.1 (f k) = false := by
        cases q' : D.eq p.1 (f k) with
        | false => rfl
        | true => exact absurd (hf _ _ ((h.1.symm.trans ((D.eq_iff _ _).mp q')))) hk
      have l : look (p :: kvs) (f k) = look kvs (f k) := by simp [look, List.find?_cons, this]
      rw [l, valV_neg hk]
      exact look_rel k h.2 (by rw [e2]; exact rs)
theorem put_rel (k : κ) {d : D} {v : V} (rd : RelD K W d v) : ∀ {kvs : List (D × D)} {kv : List (κ × V)}, kvs.map (·.1) = kv.map (fun p => f p.1) → RelDs K W (kvs.map (·.2)) (kv.map (·.2)) →
    (putD kvs (f k) d).map (·.1) = (putK kv k v).map (fun p => f p.1) ∧ RelDs K W ((putD kvs (f k) d).map (·.2)) ((putK kv k v).map (·.2)) := by
  have any : ∀ {kvs : List (D × D)} {kv : List (κ × V)}, kvs.map (·.1) = kv.map (fun p => f p.1) → (kvs.any fun p => D.eq p.1 (f k)) = kv.any fun p => decide (p.1 = k) := by
    intro kvs
    induction kvs with
    | nil => intro kv h; cases kv with | nil => rfl | cons _ _ => simp at h
    | cons p kvs ih =>
      intro kv h
      cases kv with
      | nil => simp at h
      | cons q kv =>
        simp only [List.map_cons, List.cons.injEq] at h
        rw [List.any_cons, List.any_cons, ih h.2, h.1]
        congr 1
        by_cases hk : q.1 = k
        · rw [hk, decide_eq_true rfl]; exact (D.eq_iff _ _).mpr rfl
        · rw [decide_eq_false hk]
          cases q' : D.eq (f q.1) (f k) with
          | false => rfl
          | true => exact absurd (hf _ _ ((D.eq_iff _ _).mp q')) hk
  have repl : ∀ {kvs : List (D × D)} {kv : List (κ × V)}, kvs.map (·.1) = kv.map (fun p => f p.1) → RelDs K W (kvs.map (·.2)) (kv.map (·.2)) →
      (kvs.map (fun p => if D.eq p.1 (f k) = true then (p.1, d) else p)).map (·.1) = (kv.map fun p => if p.1 = k then (p.1, v) else p).map (fun p => f p.1) ∧
      RelDs K W ((kvs.map (fun p => if D.eq p.1 (f k) = true then (p.1, d) else p)).map (·.2)) ((kv.map fun p => if p.1 = k then (p.1, v) else p).map (·.2)) := by
    intro kvs
    induction kvs with
    | nil => intro kv h _; cases kv with | nil => exact ⟨rfl, rfl⟩ | cons _ _ => simp at h
    | cons p kvs ih =>
      intro kv h r
      cases kv with
      | nil => simp at h
      | cons q kv =>
        simp only [List.map_cons, List.cons.injEq] at h
        obtain ⟨u, ws, e, r1, rs⟩ := r
        simp only [List.map_cons, List.cons.injEq] at e
        obtain ⟨h3, h4⟩ := ih h.2 (by rw [e.2]; exact rs)
        simp only [List.map_cons]
        by_cases hk : q.1 = k
        · have : D.eq p.1 (f k) = true := (D.eq_iff _ _).mpr (by rw [h.1, hk])
          rw [if_pos this, if_pos hk]
          exact ⟨by simp only [h.1, h3], .cons rd h4⟩
        · have : ¬ D.eq p.1 (f k) = true := fun q' => hk (hf _ _ (h.1.symm.trans ((D.eq_iff _ _).mp q')))
          rw [if_neg this, if_neg hk]
          exact ⟨by simp only [h.1, h3], .cons (by rw [e.1]; exact r1) h4⟩
  intro kvs kv h r
  unfold putD putK
  rw [any h]
  by_cases hb : (kv.any fun p => decide (p.1 = k)) = true
  · rw [if_pos hb, if_pos hb]; exact repl h r
  · rw [if_neg hb, if_neg hb, List.map_append, List.map_append, List.map_append, List.map_append, h]
    exact ⟨rfl, r.append (.cons rd .nil)⟩
end
/-- the key e is k -/
theorem isKey_f {e : D} (h : isKey false e = true) : ∃ k, e = keyD k := by
  cases e <;> first | (cases h; done) | skip
  · exact ⟨.inl _, rfl⟩
  · exact ⟨.inr _, rfl⟩
theorem isKey1_all : ∀ {ds : List D}, ds.all isKey1 = true → ∃ ks : List Key, ds = ks.map keyD
  | [], _ => ⟨[], rfl⟩
  | d :: ds, h => by
    rw [List.all_cons, Bool.and_eq_true] at h
    obtain ⟨ks, e⟩ := isKey1_all h.2
    obtain ⟨k, e'⟩ := isKey_f (e := d) h.1
    exact ⟨k :: ks, by rw [e, e']; rfl⟩
theorem isKey_t {e : D} (h : isKey true e = true) : ∃ k, e = keysD k := by
  cases e <;> first | (cases h; done) | skip
  rename_i ds
  obtain ⟨ks, e⟩ := isKey1_all (ds := ds) h
  exact ⟨ks, by rw [e]; rfl⟩
theorem relD_key {K : PySem.W.Frag} {W : Wo} {k : Key} {v : V} (r : RelD K W (keyD k) v) : v = kV k := by cases k <;> exact r
theorem relDs_keys {K : PySem.W.Frag} {W : Wo} : ∀ {ks : List Key} {vs : List V}, RelDs K W (ks.map keyD) vs → vs = ks.map kV
  | [], _, h => h
  | k :: ks, vs, ⟨v, ws, e, r, rs⟩ => by rw [e, relD_key r, relDs_keys rs]; rfl
section
variable {K : PySem.W.Frag} {ca : Ci} {W : Wo} {a : A} {H : Hp}
/-- what a dict holds at a key -/
theorem dget_rel (R : RH K ca W a H) {t : Bool} {kvs : List (D × D)} {p : Addr} {ho : HO} {e : D} {y : V} (hp : H p = some ho) (r : RelKV K W t kvs ho) (hk : isKey t e = true) (ry : RelD K W e y) :
    ∃ o, DGet H p y o ∧ ((look kvs e = none ∧ o = none) ∨ ∃ d v, look kvs e = some d ∧ o = some v ∧ RelD K W d v) := by
  rcases r with ⟨e0, kv, e1, h1, h2⟩ | ⟨e0, kv, e1, h1, h2⟩
  · subst e0
    subst e1
    obtain ⟨k, rfl⟩ := isKey_f hk
    rw [relD_key ry]
    refine ⟨_, DGet.k hp, ?_⟩
    rcases look_rel (f := keyD) (fun _ _ => keyD_inj) k h1 h2 with q | ⟨d, v, q1, q2, q3⟩
    · exact .inl q
    · exact .inr ⟨d, v, q1, q2, q3⟩
  · subst e0
    subst e1
    obtain ⟨k, rfl⟩ := isKey_t hk
    obtain ⟨q, vs, ey, g, rs, _⟩ := id ry
    have ev := relDs_keys rs
    subst ev
    have g' := R.sub _ _ g
    subst ey
    refine ⟨_, DGet.t hp g', ?_⟩
    rcases look_rel (f := keysD) (fun _ _ => keysD_inj) k h1 h2 with q | ⟨d, v, q1, q2, q3⟩
    · exact .inl q
    · exact .inr ⟨d, v, q1, q2, q3⟩
end
end DW
set_option Elab.async false
set_option linter.all false
set_option maxRecDepth 100000
set_option maxHeartbeats 1000000
namespace DW
open PySem PySem.Spec PyProof.Rows L2
/-! ## Subscripts, slices, in -/
theorem RelDs.atI {K : PySem.W.Frag} {W : Wo} {ds : List D} {vs : List V} {i : Int} {d : D} (r : RelDs K W ds vs) (h : L2.atI ds i = some d) : ∃ v, L2.atI vs i = some v ∧ RelD K W d v := by
  unfold L2.atI at h ⊢
  rw [r.length] at h
  cases e : ixN vs.length i with
  | none => rw [e] at h; cases h
  | some j =>
    rw [e] at h
    exact r.get (i := j) h
def rIx (d e : D) (a : A) (Q : DQ) : Prop := match vwD a d with
  | some (t, kvs) => isKey t e = true ∧ (match look kvs e with | some x => Q x a | none => False)
  | none => match e with
    | .int i => (match vwLT a d with
      | some ds => (match L2.atI ds i with | some x => Q x a | none => False)
      | none => match d with | .str z => Fits z.length ∧ (match L2.atI z.cps.toList i with | some c => Q (.str ⟨#[c]⟩) a | none => False) | _ => False)
    | _ => False
section
variable {X : Cx} {ca : Ci} {W0 : Bw} {pos : Pos} {e f : Expr} {ta tb : TE'}
theorem ix_dict (hu : X.A.units + 1 < cLine) : IxR X (fun x y H Q => ∃ a v, x = .ref a ∧ DGet H a y (some v) ∧ Q v H) := by
  intro value slice pins s σ H x y v u Q I rx ry h hs
  obtain ⟨a, z, rfl, g, q⟩ := h
  cases rx
  exact tail_any (dict_typeIs I g) PySem.F.slot_dict_getitem.lookup (d_getItem hu I g ry fun w' s' I' rw' => ⟨z, H, I', rw', q⟩) hs
abbrev rrIx (K : PySem.W.Frag) : R2 := fun x y H Q => L2.rIx K x y H Q ∨ (∃ a v, x = .ref a ∧ DGet H a y (some v) ∧ Q v H)
theorem oo_ix (hu : X.A.units + 1 < cLine) : IxR X (rrIx X.K) := IxR.or ix_seq (ix_dict hu)
theorem od_ix {K : PySem.W.Frag} : Op2 K ca (rrIx K) rIx := by
  intro W a H d e x y Q Q2 R rx ry h k
  unfold rIx at h
  cases hd : vwD a d with
  | some tk =>
    obtain ⟨t, kvs⟩ := tk
    simp only [hd] at h
    obtain ⟨hk, h⟩ := h
    obtain ⟨p, ho, ex, hp, rel⟩ := R.vwD rx hd
    obtain ⟨o, g, q⟩ := dget_rel R hp rel hk ry
    rcases q with ⟨q, _⟩ | ⟨d', v', q1, q2, q3⟩
    · rw [q] at h; exact h.elim
    · rw [q1] at h
      subst q2
      exact .inr ⟨p, v', ex, g, k _ H W a _ .refl R q3 h⟩
  | none =>
    simp only [hd] at h
    cases e with
    | int i =>
      rw [show y = V.int i from ry]
      simp only at h
      cases hs : vwLT a d with
      | some ds =>
        simp only [hs] at h
        cases hi : L2.atI ds i with
        | none => rw [hi] at h; exact h.elim
        | some z =>
          rw [hi] at h
          obtain ⟨p, vs, ex, g, rs⟩ := R.vwLT rx hs
          obtain ⟨v, hv, rv⟩ := rs.atI hi
          refine .inl ?_
          rcases g with g | g
          · exact .inl ⟨p, vs, i, v, ex, rfl, g, hv, k _ H W a _ .refl R rv h⟩
          · exact .inr (.inl ⟨p, vs, i, v, ex, rfl, g, hv, k _ H W a _ .refl R rv h⟩)
      | none =>
        simp only [hs] at h
        cases d with
        | str z =>
          rw [show x = V.str z from rx]
          obtain ⟨hz, h⟩ := h
          cases hi : L2.atI z.cps.toList i with
          | none => rw [hi] at h; exact h.elim
          | some c => rw [hi] at h; exact .inl (.inr (.inr ⟨z, i, c, rfl, rfl, hz.le, hi, k.str R h⟩))
        | _ => exact (show False from h).elim
    | _ => exact (show False from h).elim

/-! ### new lists: by value or as a loc -/
def outL (m : Bool) (ds : List D) (a : A) (Q : DQ) : Prop := match m with
  | false => Q (.lst ds) a
  | true => Q (.loc a.length) (a ++ [.lst ds])
theorem outL_ok {K : PySem.W.Frag} {W W1 : Wo} {a : A} {H : Hp} {ds : List D} {vs : List V} {Q : DQ} {Q2 : VK} {m : Bool} (l : W.le W1) (R : RH K ca W1 a H) (r : RelDs K W1 ds vs) (hz : Fits ds.length) (q : outL m ds a Q) (k : Kont K ca W Q Q2) :
    ∀ p, H p = none → Q2 (.ref p) (upd H p (.lst vs)) := by
  cases m with
  | false => exact newLst l R r hz q k
  | true => exact newLstM l R r q k
/-! ### slices -/
abbrev TO' := En → A → (Option Int → A → Prop) → Prop
def DO (X : Cx) (ca : Ci) (W0 : Bw) (e : Option Expr) (t : TO') : Prop := ∃ te, PO X e te ∧ ∀ W a H ρ σ Q (Q2 : Option Int → Hp → Prop), RS X.K ca W0 W a H ρ σ → t ρ a Q → (∀ o H' W' A', W.le W' → RH X.K ca W' A' H' → Q o A' → Q2 o H') → te σ H Q2
def wNoPart : TO' := fun _ a Q => Q none a
def wPart (t : TE') : TO' := fun ρ a Q => t ρ a fun d a1 => match d with | .int i => Q (some i) a1 | _ => False
theorem do_none : DO X ca W0 none wNoPart := ⟨_, po_none, fun W a H ρ σ Q Q2 R h k => k none H W a .refl R.rh h⟩
theorem do_some (h : DE X ca W0 e ta) : DO X ca W0 (some e) (wPart ta) := by
  obtain ⟨te, pe, h⟩ := h
  refine ⟨_, po_some pe, fun W a H ρ σ Q Q2 R q k => h W a H ρ σ _ _ R q fun v H1 W1 a1 d l1 R1 r1 q1 => ?_⟩
  cases d <;> first | exact (show False from q1).elim | skip
  rw [show v = V.int _ from r1]
  exact ⟨_, rfl, k _ H1 W1 a1 l1 R1 q1⟩
def cutD (ds : List D) (lo hi : Option Int) : List D := (ds.drop (HT.sIx ds.length 0 lo)).take (HT.sIx ds.length ds.length hi - HT.sIx ds.length 0 lo)
theorem RelDs.cut {K : PySem.W.Frag} {W : Wo} {ds : List D} {vs : List V} (r : RelDs K W ds vs) (lo hi : Option Int) : RelDs K W (cutD ds lo hi) (cutV vs lo hi) := by
  unfold cutD cutV
  rw [r.length]
  exact (r.drop _).take _
theorem cutD_le (ds : List D) (lo hi : Option Int) : (cutD ds lo hi).length ≤ ds.length := by
  unfold cutD
  rw [List.length_take, List.length_drop]
  omega
def rSl (m : Bool) (d : D) (lo hi : Option Int) (a : A) (Q : DQ) : Prop := match d with
  | .str z => Fits z.length ∧ Q (.str (cutS z lo hi)) a
  | .tup ds => Fits ds.length ∧ Q (.tup (cutD ds lo hi)) a
  | d => match vwS a d with | some ds => Fits ds.length ∧ outL m (cutD ds lo hi) a Q | none => False
abbrev rrSl (K : PySem.W.Frag) : V → Option Int → Option Int → Hp → VK → Prop := fun x lo hi H Q => rSlS x lo hi H Q ∨ rSlA K x lo hi H Q ∨ rSlL K x lo hi H Q
theorem oo_sl : SlR X (rrSl X.K) := SlR.or sl_str (SlR.or sl_tupA sl_list)
def wSl (m : Bool) (te : TE') (tl th : TO') : TE' := fun ρ a Q => te ρ a fun d a1 => tl ρ a1 fun l a2 => th ρ a2 fun u a3 => rSl m d l u a3 Q
theorem od_sl {K : PySem.W.Frag} {m : Bool} {W : Wo} {a : A} {H : Hp} {d : D} {x : V} {lo hi : Option Int} {Q : DQ} {Q2 : VK} (R : RH K ca W a H) (rx : RelD K W d x) (h : rSl m d lo hi a Q) (k : Kont K ca W Q Q2) : rrSl K x lo hi H Q2 := by
  have lists : (match vwS a d with | some ds => Fits ds.length ∧ outL m (cutD ds lo hi) a Q | none => False) → rrSl K x lo hi H Q2 := fun h => by
    cases e1 : vwS a d with
    | none => simp [e1] at h
    | some ds =>
      simp only [e1] at h
      obtain ⟨p, vs, ex, g, r⟩ := R.vwS rx e1
      exact .inr (.inr ⟨p, vs, ex, g, outL_ok .refl R (r.cut lo hi) ⟨Nat.le_trans (cutD_le _ _ _) h.1.le⟩ h.2 k⟩)
  cases d with
  | str z => rw [show x = V.str z from rx]; exact .inl ⟨z, rfl, h.1.le, k.str R h.2⟩
  | tup ds =>
    obtain ⟨hz, h⟩ := h
    have rx' := rx
    obtain ⟨p, vs, ex, g, r⟩ := R.vwT rx rfl
    subst ex
    refine .inr (.inl ⟨p, vs, rfl, g, fun hw => ?_, fun _ => newTup .refl R (r.cut lo hi) ⟨Nat.le_trans (cutD_le _ _ _) hz.le⟩ h k⟩)
    have : cutD ds lo hi = ds := by
      unfold cutD
      rw [r.length, hw.1, hw.2, ← r.length]
      simp
    rw [this] at h
    exact k _ H W a _ .refl R rx' h
  | ktup _ => exact lists h
  | lst _ => exact lists h
  | loc _ => exact lists h
  | non => exact lists h
  | bl _ => exact lists h
  | int _ => exact lists h
  | raw _ => exact lists h
  | scr _ => exact lists h
  | dic _ _ _ => exact lists h
theorem de_slice {m : Bool} {lo hi : Option Expr} {tl th : TO'} {p2 : Pos} (he : DE X ca W0 e ta) (hl : DO X ca W0 lo tl) (hh : DO X ca W0 hi th) : DE X ca W0 (.Subscript e (.Slice lo hi none p2) pos) (wSl m ta tl th) := by
  obtain ⟨te, pe, he⟩ := he
  obtain ⟨tl', pl, hl⟩ := hl
  obtain ⟨th', ph, hh⟩ := hh
  refine ⟨_, pe_slice oo_sl pe pl ph, fun W a H ρ σ Q Q2 R h k => he W a H ρ σ _ _ R h fun v H1 W1 a1 d l1 R1 r1 q1 => ?_⟩
  refine hl W1 a1 H1 ρ σ _ _ (R.next l1 R1) q1 fun o H2 W2 a2 l2 R2 q2 => ?_
  refine hh W2 a2 H2 ρ σ _ _ (R.next (l1.trans l2) R2) q2 fun o' H3 W3 a3 l3 R3 q3 => ?_
  exact od_sl R3 (r1.le (l2.trans l3)) q3 (k.le (l1.trans (l2.trans l3)))
/-! ### in -/
def inFlat (ds : List D) (d : D) : Bool := ds.any fun z => eqFlat z d
/-- x in a list, a tuple, a dict, a text -/
def inD (a : A) (d e : D) : Option Bool := match vwD a e with
  | some (t, kvs) => if isKey t d = true then some (look kvs d).isSome else none
  | none => match vwLT a e with
    | some ds => if (flatD d && ds.all flatD) = true then some (inFlat ds d) else match e with
      | .lst ds => match pyF d, pyFs ds with
        | some p, some ps => if (SeqAt.shaped p && SeqAt.shaped (.list ps)) = true then some (ps.any fun z => PyData.eqv z p) else none
        | _, _ => none
      | _ => none
    | none => match d, e with
      | .str i, .str j => some (!(Builtin.Str.occurrences j i 0 j.length 1).isEmpty)
      | _, _ => none
def rIn (d e : D) (a : A) (Q : DQ) : Prop := match inD a d e with | some b => Q (.bl b) a | none => False
def rNotIn (d e : D) (a : A) (Q : DQ) : Prop := match inD a d e with | some b => Q (.bl (!b)) a | none => False
theorem eqFlat_V {K : PySem.W.Frag} {W : Wo} {d e : D} {x y : V} (hd : flatD d = true) (he : flatD e = true) (rx : RelD K W d x) (ry : RelD K W e y) : eqFlat d e = eqV x y ∧ flatV x = true ∧ flatV y = true := by
  cases d <;> first | (cases hd; done) | skip
  all_goals (cases e <;> first | (cases he; done) | skip)
  all_goals (first | rw [show x = V.non from rx] | rw [show x = V.bl _ from rx] | rw [show x = V.int _ from rx] | rw [show x = V.str _ from rx])
  all_goals (first | rw [show y = V.non from ry] | rw [show y = V.bl _ from ry] | rw [show y = V.int _ from ry] | rw [show y = V.str _ from ry])
  all_goals refine ⟨?_, rfl, rfl⟩
  all_goals first
    | rfl
    | exact Bool.beq_eq_decide_eq .. |>.symm
theorem inFlat_V {K : PySem.W.Frag} {W : Wo} {d : D} {x : V} (hd : flatD d = true) (rx : RelD K W d x) : ∀ {ds : List D} {vs : List V}, ds.all flatD = true → RelDs K W ds vs → inFlat ds d = inV x vs ∧ vs.all flatV = true
  | [], vs, _, r => by rw [show vs = [] from r]; exact ⟨rfl, rfl⟩
  | z :: ds, vs, h, r => by
    obtain ⟨v, ws, e, r1, rs⟩ := r
    subst e
    rw [List.all_cons, Bool.and_eq_true] at h
    obtain ⟨h1, h2⟩ := inFlat_V hd rx h.2 rs
    obtain ⟨g1, g2, g3⟩ := eqFlat_V h.1 hd r1 rx
    refine ⟨?_, by rw [List.all_cons, g2, h2]; rfl⟩
    unfold inFlat inV at h1 ⊢
    rw [List.any_cons, List.any_cons, h1, g1]
theorem op_inDict (hu : X.A.units + 1 < cLine) : OpR X (compareOp .In) (fun x y H Q => ∃ a o, y = .ref a ∧ DGet H a x o ∧ Q (.bl o.isSome) H) := by
  intro pins s σ H x y v u Q I rx ry h
  obtain ⟨a, o, rfl, g, q⟩ := h
  cases ry
  exact d_in hu I g rx fun s' I' => ⟨.bl _, H, I', rfl, q⟩
theorem op_notInDict (hu : X.A.units + 1 < cLine) : OpR X (compareOp .NotIn) (fun x y H Q => ∃ a o, y = .ref a ∧ DGet H a x o ∧ Q (.bl (!o.isSome)) H) := by
  intro pins s σ H x y v u Q I rx ry h
  obtain ⟨a, o, rfl, g, q⟩ := h
  cases ry
  exact d_notIn hu I g rx fun s' I' => ⟨.bl _, H, I', rfl, q⟩
abbrev rrIn (K : PySem.W.Frag) : R2 := fun x y H Q => (∃ a o, y = .ref a ∧ DGet H a x o ∧ Q (.bl o.isSome) H) ∨ L2.rIn K false x y H Q ∨ rInD K x y H Q ∨ (∃ i j, x = .str i ∧ y = .str j ∧ Q (.bl (!(Builtin.Str.occurrences j i 0 j.length 1).isEmpty)) H)
abbrev rrNotIn (K : PySem.W.Frag) : R2 := fun x y H Q => (∃ a o, y = .ref a ∧ DGet H a x o ∧ Q (.bl (!o.isSome)) H) ∨ L2.rIn K true x y H Q ∨ rNotInD K x y H Q ∨ (∃ i j, x = .str i ∧ y = .str j ∧ Q (.bl (!(!(Builtin.Str.occurrences j i 0 j.length 1).isEmpty))) H)
theorem oo_in (hu : X.A.units + 65 < cLine) : OpR X (compareOp .In) (rrIn X.K) := OpR.or (op_inDict (by omega)) (OpR.or op_in_seq (OpR.or (op_inD hu) op_in_str))
theorem oo_notIn (hu : X.A.units + 65 < cLine) : OpR X (compareOp .NotIn) (rrNotIn X.K) := OpR.or (op_notInDict (by omega)) (OpR.or op_notIn_seq (OpR.or (op_notInD hu) op_notIn_str))
theorem inD_ok {K : PySem.W.Frag} {W : Wo} {a : A} {H : Hp} {d e : D} {x y : V} {b : Bool} (R : RH K ca W a H) (rx : RelD K W d x) (ry : RelD K W e y) (h : inD a d e = some b) :
    (∃ p o, y = .ref p ∧ DGet H p x o ∧ o.isSome = b) ∨ (∃ p xs, y = .ref p ∧ (SqL K H p xs ∨ SqT K H p xs) ∧ flatV x = true ∧ xs.all flatV = true ∧ inV x xs = b) ∨
    (∃ pd ps, Dp K H x pd ∧ Dp K H y (.list ps) ∧ SeqAt.shaped pd = true ∧ SeqAt.shaped (.list ps) = true ∧ (ps.any fun z => PyData.eqv z pd) = b) ∨
    (∃ i j, x = .str i ∧ y = .str j ∧ (!(Builtin.Str.occurrences j i 0 j.length 1).isEmpty) = b) := by
  unfold inD at h
  cases hd : vwD a e with
  | some tk =>
    obtain ⟨t, kvs⟩ := tk
    simp only [hd] at h
    by_cases hk : isKey t d = true
    · rw [if_pos hk] at h
      cases h
      obtain ⟨p, ho, ex, hp, rel⟩ := R.vwD ry hd
      obtain ⟨o, g, q⟩ := dget_rel R hp rel hk rx
      refine .inl ⟨p, o, ex, g, ?_⟩
      rcases q with ⟨q1, q2⟩ | ⟨d', v', q1, q2, _⟩
      · rw [q1, q2]; rfl
      · rw [q1, q2]; rfl
    · rw [if_neg hk] at h; cases h
  | none =>
    simp only [hd] at h
    cases hs : vwLT a e with
    | some ds =>
      simp only [hs] at h
      obtain ⟨p, vs, ex, g, rs⟩ := R.vwLT ry hs
      by_cases hf : (flatD d && ds.all flatD) = true
      · rw [if_pos hf] at h
        cases h
        rw [Bool.and_eq_true] at hf
        have hfd : flatV x = true := (eqFlat_V hf.1 hf.1 rx rx).2.1
        obtain ⟨h1, h2⟩ := inFlat_V hf.1 rx hf.2 rs
        exact .inr (.inl ⟨p, vs, ex, g, hfd, h2, h1.symm⟩)
      · rw [if_neg hf] at h
        cases e with
        | lst es =>
          simp only at h
          have : ds = es := by
            have : some es = some ds := hs
            cases this; rfl
          subst this
          cases e1 : pyF d with
          | none => simp [e1] at h
          | some pd =>
            cases e2 : pyFs ds with
            | none => simp [e1, e2] at h
            | some ps =>
              simp only [e1, e2] at h
              by_cases hz : (SeqAt.shaped pd && SeqAt.shaped (.list ps)) = true
              · rw [if_pos hz] at h
                cases h
                rw [Bool.and_eq_true] at hz
                refine .inr (.inr (.inl ⟨pd, ps, pyF_dp (W := ⟨H, W.ι, W.N, W.Z⟩) d x pd (RelD.mono R.up _ _ rx) e1, ?_, hz.1, hz.2, rfl⟩))
                exact pyF_dp (W := ⟨H, W.ι, W.N, W.Z⟩) (.lst ds) y (.list ps) (RelD.mono R.up _ _ ry) (by unfold pyF; rw [e2]; rfl)
              · rw [if_neg hz] at h; cases h
        | _ => simp at h
    | none =>
      simp only [hs] at h
      cases d <;> first | (cases h; done) | skip
      cases e <;> first | (cases h; done) | skip
      cases h
      rw [show x = V.str _ from rx, show y = V.str _ from ry]
      exact .inr (.inr (.inr ⟨_, _, rfl, rfl, rfl⟩))
theorem od_in {K : PySem.W.Frag} : Op2 K ca (rrIn K) rIn := by
  intro W a H d e x y Q Q2 R rx ry h k
  obtain ⟨b, hb, q⟩ := eqD_none (P := fun b => Q (.bl b) a) h
  rcases inD_ok R rx ry hb with ⟨p, o, e1, e2, e3⟩ | ⟨p, xs, e1, e2, e3, e4, e5⟩ | ⟨pd, ps, e1, e2, e3, e4, e5⟩ | ⟨i, j, e1, e2, e3⟩
  · exact .inl ⟨p, o, e1, e2, by rw [e3]; exact k.bl R q⟩
  · exact .inr (.inl ⟨p, xs, e1, e2, e3, e4, by rw [if_neg Bool.false_ne_true, e5]; exact k.bl R q⟩)
  · exact .inr (.inr (.inl ⟨pd, ps, e1, e2, e3, e4, by rw [e5]; exact k.bl R q⟩))
  · exact .inr (.inr (.inr ⟨i, j, e1, e2, by rw [e3]; exact k.bl R q⟩))
theorem od_notIn {K : PySem.W.Frag} : Op2 K ca (rrNotIn K) rNotIn := by
  intro W a H d e x y Q Q2 R rx ry h k
  obtain ⟨b, hb, q⟩ := eqD_none (P := fun b => Q (.bl (!b)) a) h
  rcases inD_ok R rx ry hb with ⟨p, o, e1, e2, e3⟩ | ⟨p, xs, e1, e2, e3, e4, e5⟩ | ⟨pd, ps, e1, e2, e3, e4, e5⟩ | ⟨i, j, e1, e2, e3⟩
  · exact .inl ⟨p, o, e1, e2, by rw [e3]; exact k.bl R q⟩
  · exact .inr (.inl ⟨p, xs, e1, e2, e3, e4, by rw [if_pos rfl, e5]; exact k.bl R q⟩)
  · exact .inr (.inr (.inl ⟨pd, ps, e1, e2, e3, e4, by rw [e5]; exact k.bl R q⟩))
  · exact .inr (.inr (.inr ⟨i, j, e1, e2, by rw [e3]; exact k.bl R q⟩))
end

/-! ## Calls of what is built in -/
def wN (r : List D → A → DQ → Prop) (t : TA') : TE' := fun ρ a Q => t ρ a fun ds a1 => r ds a1 Q
section
variable {X : Cx} {ca : Ci} {W0 : Bw} {pos p : Pos} {e f : Expr} {es : List Expr} {ta tb : TE'} {ts : TA'} {x : Str}
theorem de_callB {id : String} {rr : List V → Hp → VK → Prop} {r : List D → A → DQ → Prop} (hc : CallR X (.builtin id) rr) (hr : OpN X.K ca rr r) (hg : Gl X x) (hm : X.mg x = none) (hv : bootBuiltins x = some (.builtin id)) (ha : DA X ca W0 (e :: es) ts)
    (hn : x ≠ "__name__" := by decide) (hdb : (x == ("__debug__" : Str)) = false := by decide) (he : starEach (e :: es) X.env = (false, eval e X.env) :: starEach es X.env := by rfl) (hpl : (backTo pos (starEach es X.env)).any (·.1) = false := by rfl) :
    DE X ca W0 (.Call (.Name x p) (e :: es) [] pos) (wN r ts) := by
  obtain ⟨te, pe, ha⟩ := ha
  exact ⟨_, pe_callB hc hg hm hv pe hn hdb he hpl, fun W a H ρ σ Q Q2 R h k => ha W a H ρ σ _ _ R h fun vs H1 W1 a1 ds l1 R1 r1 q1 => hr W1 a1 H1 ds vs Q Q2 R1 r1 q1 (k.le l1)⟩
theorem de_callTy {T : String} {rr : List V → Hp → VK → Prop} {r : List D → A → DQ → Prop} (hc : CallR X (.type T) rr) (hr : OpN X.K ca rr r) (hg : Gl X x) (hm : X.mg x = none) (hv : bootBuiltins x = some (.type T)) (ha : DA X ca W0 (e :: es) ts)
    (hn : x ≠ "__name__" := by decide) (hdb : (x == ("__debug__" : Str)) = false := by decide) (he : starEach (e :: es) X.env = (false, eval e X.env) :: starEach es X.env := by rfl) (hpl : (backTo pos (starEach es X.env)).any (·.1) = false := by rfl) :
    DE X ca W0 (.Call (.Name x p) (e :: es) [] pos) (wN r ts) := by
  obtain ⟨te, pe, ha⟩ := ha
  exact ⟨_, pe_callTy hc hg hm hv pe hn hdb he hpl, fun W a H ρ σ Q Q2 R h k => ha W a H ρ σ _ _ R h fun vs H1 W1 a1 ds l1 R1 r1 q1 => hr W1 a1 H1 ds vs Q Q2 R1 r1 q1 (k.le l1)⟩
end
section
variable {K : PySem.W.Frag} {ca : Ci}
theorem rel1 {W : Wo} {d : D} {xs : List V} (r : RelDs K W [d] xs) : ∃ x, xs = [x] ∧ RelD K W d x := by
  obtain ⟨v, ws, e, r, rs⟩ := r
  rw [show ws = [] from rs] at e
  exact ⟨v, e, r⟩
theorem rel2 {W : Wo} {d e : D} {xs : List V} (r : RelDs K W [d, e] xs) : ∃ x y, xs = [x, y] ∧ RelD K W d x ∧ RelD K W e y := by
  obtain ⟨v, ws, e, r, rs⟩ := r
  obtain ⟨y, h, r2⟩ := rel1 rs
  rw [h] at e
  exact ⟨v, y, e, r, r2⟩
/-- a rule for one value -/
def R1 (r : D → A → DQ → Prop) (ds : List D) (a : A) (Q : DQ) : Prop := match ds with | [d] => r d a Q | _ => False
def R2' (r : D → D → A → DQ → Prop) (ds : List D) (a : A) (Q : DQ) : Prop := match ds with | [d, e] => r d e a Q | _ => False
theorem opN1 {rr : List V → Hp → VK → Prop} {r : D → A → DQ → Prop} (h : ∀ W a H d x Q Q2, RH K ca W a H → RelD K W d x → r d a Q → Kont K ca W Q Q2 → rr [x] H Q2) : OpN K ca rr (R1 r) := by
  intro W a H ds xs Q Q2 R rs q k
  unfold R1 at q
  split at q
  · obtain ⟨x, e, r⟩ := rel1 rs
    subst e
    exact h W a H _ x Q Q2 R r q k
  · exact q.elim
theorem opN2 {rr : List V → Hp → VK → Prop} {r : D → D → A → DQ → Prop} (h : ∀ W a H d e x y Q Q2, RH K ca W a H → RelD K W d x → RelD K W e y → r d e a Q → Kont K ca W Q Q2 → rr [x, y] H Q2) : OpN K ca rr (R2' r) := by
  intro W a H ds xs Q Q2 R rs q k
  unfold R2' at q
  split at q
  · obtain ⟨x, y, e, r1, r2⟩ := rel2 rs
    subst e
    exact h W a H _ _ x y Q Q2 R r1 r2 q k
  · exact q.elim
/-- len -/
def rLen (d : D) (a : A) (Q : DQ) : Prop := match d with
  | .str z => Fits z.length ∧ Q (.int z.length) a
  | d => match vwLT a d with
    | some ds => Q (.int ds.length) a
    | none => match vwD a d with | some (t, kvs) => t = false ∧ Q (.int kvs.length) a | none => False
abbrev rrLen (K : PySem.W.Frag) : List V → Hp → VK → Prop := fun xs H Q => (∃ x n, xs = [x] ∧ LenV K x H n ∧ Q (.int n) H) ∨ ∃ a kvs, xs = [V.ref a] ∧ H a = some (HO.dK kvs) ∧ Q (V.int kvs.length) H
theorem oc_len {X : Cx} : CallR X (.builtin "len") (rrLen X.K) := CallR.or call_len call_lenD
theorem on_len : OpN K ca (rrLen K) (R1 rLen) := opN1 fun W a H d x Q Q2 R rx h k => by
  have seqs : (match vwLT a d with | some ds => Q (.int ds.length) a | none => match vwD a d with | some (t, kvs) => t = false ∧ Q (.int kvs.length) a | none => False) → rrLen K [x] H Q2 := fun h => by
    cases hs : vwLT a d with
    | some ds =>
      simp only [hs] at h
      obtain ⟨p, vs, ex, g, r⟩ := R.vwLT rx hs
      subst ex
      refine .inl ⟨.ref p, vs.length, rfl, g.imp (fun g => ⟨vs, g, rfl⟩) (fun g => ⟨vs, g, rfl⟩), ?_⟩
      rw [← r.length]
      exact k.int R h
    | none =>
      simp only [hs] at h
      cases hd : vwD a d with
      | none => simp [hd] at h
      | some tk =>
        obtain ⟨t, kvs⟩ := tk
        simp only [hd] at h
        obtain ⟨ht, h⟩ := h
        obtain ⟨p, ho, ex, hp, rel⟩ := R.vwD rx hd
        rcases rel with ⟨_, kv, e, e2, _⟩ | ⟨e, _⟩
        · subst e
          refine .inr ⟨p, kv, by rw [ex], hp, ?_⟩
          have : kvs.length = kv.length := by rw [← List.length_map (f := fun x : D × D => x.1), e2, List.length_map]
          rw [← this]
          exact k.int R h
        · rw [ht] at e; cases e
  cases d with
  | str z => rw [show x = V.str z from rx]; exact .inl ⟨_, _, rfl, ⟨h.1.le, rfl⟩, k.int R h.2⟩
  | tup _ => exact seqs h
  | ktup _ => exact seqs h
  | lst _ => exact seqs h
  | loc _ => exact seqs h
  | non => exact seqs h
  | bl _ => exact seqs h
  | int _ => exact seqs h
  | raw _ => exact seqs h
  | scr _ => exact seqs h
  | dic _ _ _ => exact seqs h
/-- min, max of two ints; of a list of ints -/
def rMin2 (d e : D) (a : A) (Q : DQ) : Prop := match d with
  | .int i => match e with | .int j => Q (.int (if j < i then j else i)) a | _ => False
  | _ => False
def rMax2 (d e : D) (a : A) (Q : DQ) : Prop := match d with
  | .int i => match e with | .int j => Q (.int (if j > i then j else i)) a | _ => False
  | _ => False
theorem on_min2 : OpN K ca (fun xs H Q => ∃ i j, xs = [.int i, .int j] ∧ Q (.int (if j < i then j else i)) H) (R2' rMin2) := opN2 fun W a H d e x y Q Q2 R rx ry h k => by
  cases d <;> first | exact (show False from h).elim | skip
  cases e <;> first | exact (show False from h).elim | skip
  rw [show x = V.int _ from rx, show y = V.int _ from ry]
  exact ⟨_, _, rfl, k.int R h⟩
theorem on_max2 : OpN K ca (fun xs H Q => ∃ i j, xs = [.int i, .int j] ∧ Q (.int (if j > i then j else i)) H) (R2' rMax2) := opN2 fun W a H d e x y Q Q2 R rx ry h k => by
  cases d <;> first | exact (show False from h).elim | skip
  cases e <;> first | exact (show False from h).elim | skip
  rw [show x = V.int _ from rx, show y = V.int _ from ry]
  exact ⟨_, _, rfl, k.int R h⟩
/-- int(n), int(b) -/
def rInt1 (d : D) (a : A) (Q : DQ) : Prop := match d with
  | .int i => Q (.int i) a
  | .bl b => Q (.int (if b then 1 else 0)) a
  | _ => False
theorem on_int1 : OpN K ca (fun xs H Q => (∃ i, xs = [.int i] ∧ Q (.int i) H) ∨ ∃ k, xs = [.bl k] ∧ Q (.int (if k then 1 else 0)) H) (R1 rInt1) := opN1 fun W a H d x Q Q2 R rx h k => by
  cases d <;> first | exact (show False from h).elim | skip
  · rw [show x = V.bl _ from rx]; exact .inr ⟨_, rfl, k.int R h⟩
  · rw [show x = V.int _ from rx]; exact .inl ⟨_, rfl, k.int R h⟩
/-- str(n) -/
def rStr1 (d : D) (a : A) (Q : DQ) : Prop := match d with
  | .int i => i.natAbs.log2 < 1920 ∧ Q (.str (toString i)) a
  | _ => False
theorem on_str1 : OpN K ca (fun xs H Q => ∃ i, xs = [.int i] ∧ i.natAbs.log2 < 1920 ∧ Q (.str (toString i)) H) (R1 rStr1) := opN1 fun W a H d x Q Q2 R rx h k => by
  cases d <;> first | exact (show False from h).elim | skip
  rw [show x = V.int _ from rx]
  exact ⟨_, rfl, h.1, k.str R h.2⟩
/-- list(x), tuple(x) -/
def rListOf (m : Bool) (d : D) (a : A) (Q : DQ) : Prop := match vwLT a d with
  | some ds => Fits ds.length ∧ outL m ds a Q
  | none => False
theorem on_listOf {m : Bool} : OpN K ca (fun xs H Q => ∃ p ys, xs = [.ref p] ∧ (SqL K H p ys ∨ SqT K H p ys) ∧ ∀ l, H l = none → Q (.ref l) (upd H l (.lst ys))) (R1 (rListOf m)) := opN1 fun W a H d x Q Q2 R rx h k => by
  unfold rListOf at h
  cases hs : vwLT a d with
  | none => simp [hs] at h
  | some ds =>
    simp only [hs] at h
    obtain ⟨p, vs, ex, g, r⟩ := R.vwLT rx hs
    subst ex
    exact ⟨p, vs, rfl, g, outL_ok .refl R r h.1 h.2 k⟩
def rTupleOf (d : D) (a : A) (Q : DQ) : Prop := match d with
  | .tup ds => Q (.tup ds) a
  | .ktup ds => Q (.ktup ds) a
  | d => match vwS a d with
    | some ds => Fits ds.length ∧ Q (.tup ds) a
    | none => False
theorem on_tupleOf : OpN K ca (fun xs H Q => ∃ p ys, xs = [.ref p] ∧ ((SqL K H p ys ∧ ∀ l, H l = none → Q (.ref l) (upd H l (.tup ys))) ∨ (SqT K H p ys ∧ Q (.ref p) H))) (R1 rTupleOf) := opN1 fun W a H d x Q Q2 R rx h k => by
  have lists : (match vwS a d with | some ds => Fits ds.length ∧ Q (.tup ds) a | none => False) → ∃ p ys, [x] = [V.ref p] ∧ ((SqL K H p ys ∧ ∀ l, H l = none → Q2 (.ref l) (upd H l (.tup ys))) ∨ (SqT K H p ys ∧ Q2 (.ref p) H)) := fun h => by
    cases hs : vwS a d with
    | none => simp [hs] at h
    | some ds =>
      simp only [hs] at h
      obtain ⟨p, vs, ex, g, r⟩ := R.vwS rx hs
      subst ex
      exact ⟨p, vs, rfl, .inl ⟨g, newTup .refl R r h.1 h.2 k⟩⟩
  cases d with
  | tup ds =>
    have rx' := rx
    obtain ⟨p, vs, ex, g, r⟩ := R.vwT rx rfl
    subst ex
    exact ⟨p, vs, rfl, .inr ⟨g, k _ H W a _ .refl R rx' h⟩⟩
  | ktup ds =>
    have rx' := rx
    obtain ⟨p, vs, ex, g, r⟩ := R.vwT rx rfl
    subst ex
    exact ⟨p, vs, rfl, .inr ⟨g, k _ H W a _ .refl R rx' h⟩⟩
  | lst _ => exact lists h
  | loc _ => exact lists h
  | non => exact lists h
  | bl _ => exact lists h
  | int _ => exact lists h
  | str _ => exact lists h
  | raw _ => exact lists h
  | scr _ => exact lists h
  | dic _ _ _ => exact lists h
/-! ### isinstance of built-in types -/
def tyName (a : A) : D → Option String
  | .non => some "NoneType"
  | .bl _ => some "bool"
  | .int _ => some "int"
  | .str _ => some "str"
  | .lst _ => some "list"
  | .tup _ => some "tuple"
  | .ktup _ => some "tuple"
  | .scr _ => some "list"
  | .dic _ _ _ => some "dict"
  | .loc n => match a[n]? with | some (.lst _) => some "list" | some (.dic _ _) => some "dict" | _ => none
  | .raw _ => none
theorem tyName_ok {W : Wo} {a : A} {H : Hp} {d : D} {x : V} {T : String} (R : RH K ca W a H) (rx : RelD K W d x) (h : tyName a d = some T) : TyX K H x (.type T) := by
  have ll : ∀ {p vs}, SqL K H p vs → TyX K H (.ref p) (.type "list") := fun g => by
    rcases g with (g | ⟨o, g⟩) | ⟨o, its, n, g, c, _⟩
    · exact .base (.lst g)
    · exact .base (.frz g)
    · exact .kList g c
  have tt : ∀ {p vs}, SqT K H p vs → TyX K H (.ref p) (.type "tuple") := fun g => by
    rcases g with (g | ⟨o, g⟩) | ⟨o, its, n, g, c, _⟩
    · exact .base (.tup g)
    · exact .fTuple g
    · exact .kTuple g c
  cases d with
  | non => cases h; rw [show x = V.non from rx]; exact .base .non
  | bl b => cases h; rw [show x = V.bl _ from rx]; exact .base (.bl _)
  | int b => cases h; rw [show x = V.int _ from rx]; exact .base (.int _)
  | str b => cases h; rw [show x = V.str _ from rx]; exact .base (.str _)
  | raw b => cases h
  | lst ds => cases h; obtain ⟨p, vs, e, g, _⟩ := R.vwS rx rfl; subst e; exact ll g
  | scr ds => cases h; obtain ⟨p, vs, e, g, _⟩ := R.vwS rx rfl; subst e; exact ll g
  | tup ds => cases h; obtain ⟨p, vs, e, g, _⟩ := R.vwT rx rfl; subst e; exact tt g
  | ktup ds => cases h; obtain ⟨p, vs, e, g, _⟩ := R.vwT rx rfl; subst e; exact tt g
  | dic t ks vs =>
    cases h
    obtain ⟨p, ho, e, hp, rel⟩ := R.vwD rx rfl
    subst e
    rcases rel with ⟨_, kv, e, _⟩ | ⟨_, kv, e, _⟩
    · subst e; exact .base (.dK hp)
    · subst e; exact .base (.dT hp)
  | loc n =>
    unfold tyName at h
    cases q : a[n]? with
    | none => simp [q] at h
    | some ao =>
      cases ao with
      | lst es =>
        simp only [q] at h; cases h
        obtain ⟨p, vs, e, g, _⟩ := R.vwS (ds := es) rx (by simp [vwS, vwL, q])
        subst e; exact ll g
      | dic u es =>
        simp only [q] at h; cases h
        obtain ⟨p, ho, e, hp, rel⟩ := R.vwD (t := u) (kvs := es) rx (by simp [vwD, q])
        subst e
        rcases rel with ⟨_, kv, e, _⟩ | ⟨_, kv, e, _⟩
        · subst e; exact .base (.dK hp)
        · subst e; exact .base (.dT hp)
      | obj _ _ => simp [q] at h
      | dead => simp [q] at h
def rIsi (d e : D) (a : A) (Q : DQ) : Prop := match e with
  | .raw (.ty T) => match tyName a d with
    | some n => match kitB n T with | some b => Q (.bl b) a | none => False
    | none => False
  | .tup [.raw (.ty T), .raw (.ty T')] => match tyName a d with
    | some n => match kitB n T, kitB n T' with | some b, some b' => Q (.bl (b || b')) a | _, _ => False
    | none => False
  | _ => False
abbrev rrIsi (K : PySem.W.Frag) : List V → Hp → VK → Prop := fun xs H Q => L2.rIsi K xs H Q ∨ rIsiT K xs H Q
theorem oc_isi {X : Cx} : CallR X (.builtin "isinstance") (rrIsi X.K) := CallR.or call_isi call_isiT
theorem on_isi : OpN K ca (rrIsi K) (R2' rIsi) := opN2 fun W a H d e x y Q Q2 R rx ry h k => by
  unfold rIsi at h
  split at h
  · rename_i T
    cases hn : tyName a d with
    | none => simp [hn] at h
    | some n =>
      simp only [hn] at h
      cases hb : kitB n T with
      | none => simp [hb] at h
      | some b =>
        simp only [hb] at h
        rw [show y = V.ty T from ry]
        exact .inl ⟨x, .ty T, .type n, .type T, b, rfl, .ty T, tyName_ok R rx hn, kit_ty hb, k.bl R h⟩
  · rename_i T T'
    cases hn : tyName a d with
    | none => simp [hn] at h
    | some n =>
      simp only [hn] at h
      cases hb : kitB n T with
      | none => simp [hb] at h
      | some b =>
        cases hb' : kitB n T' with
        | none => simp [hb, hb'] at h
        | some b' =>
          simp only [hb, hb'] at h
          obtain ⟨p, vs, ey, g, rs, _⟩ := ry
          obtain ⟨u, v, e2, r1, r2⟩ := rel2 rs
          rw [show u = V.ty T from r1, show v = V.ty T' from r2] at e2
          subst ey
          subst e2
          refine .inr ⟨x, p, _, .type n, [.type T, .type T'], b || b', rfl, R.sub _ _ g, .cons (.ty T) (.cons (.ty T') .nil), tyName_ok R rx hn, ?_, k.bl R h⟩
          refine kitAny_cons (kit_ty hb) (fun e => ?_) (fun e => by rw [e]; rfl)
          rw [e, Bool.false_or]
          exact kitAny_cons (kit_ty hb') (fun e => by rw [e]; exact kitAny_nil) (fun e => e)
  · exact h.elim
end
end DW
set_option Elab.async false
set_option linter.all false
set_option maxRecDepth 100000
set_option maxHeartbeats 1000000
namespace DW
open PySem PySem.Spec PyProof.Rows L2
/-! ## Methods of lists -/
inductive BT where | list | dict | str
def BT.nm : BT → String
  | .list => "list"
  | .dict => "dict"
  | .str => "str"
def BT.is (a : A) : BT → D → Bool
  | .list, d => (vwS a d).isSome
  | .dict, d => (vwD a d).isSome
  | .str, .str _ => true
  | _, _ => false
def wBM (T : BT) (r : D → List D → A → DQ → Prop) (to : TE') (ts : TA') : TE' := fun ρ a Q => to ρ a fun d a1 => T.is a1 d = true ∧ ts ρ a1 fun ds a2 => r d ds a2 Q
def MtD (K : PySem.W.Frag) (ca : Ci) (rr : V → List V → Hp → VK → Prop) (r : D → List D → A → DQ → Prop) : Prop :=
  ∀ W a H d ds x xs Q Q2, RH K ca W a H → RelD K W d x → RelDs K W ds xs → r d ds a Q → Kont K ca W Q Q2 → rr x xs H Q2
section
variable {X : Cx} {ca : Ci} {W0 : Bw} {pos apos cpos p : Pos} {o e : Expr} {es : List Expr} {to te : TE'} {ts : TA'} {name : Str}
theorem tyV_list {K : PySem.W.Frag} {W : Wo} {a : A} {H : Hp} {d : D} {x : V} (R : RH K ca W a H) (rx : RelD K W d x) (h : (vwS a d).isSome = true) : tyV K "list" x H := by
  obtain ⟨ds, h⟩ := Option.isSome_iff_exists.mp h
  obtain ⟨p, vs, e, g, _⟩ := R.vwS rx h
  subst e
  exact .inl ⟨rfl, vs, g⟩
theorem tyV_dict {K : PySem.W.Frag} {W : Wo} {a : A} {H : Hp} {d : D} {x : V} (R : RH K ca W a H) (rx : RelD K W d x) (h : (vwD a d).isSome = true) : tyV K "dict" x H := by
  obtain ⟨⟨t, kvs⟩, h⟩ := Option.isSome_iff_exists.mp h
  obtain ⟨p, ho, e, g, rel⟩ := R.vwD rx h
  subst e
  refine .inr (.inr (.inl ⟨rfl, ?_⟩))
  rcases rel with ⟨_, kv, e, _⟩ | ⟨_, kv, e, _⟩
  · subst e; exact .inl ⟨kv, g⟩
  · subst e; exact .inr ⟨kv, g⟩
theorem tyV_ok {K : PySem.W.Frag} {W : Wo} {a : A} {H : Hp} {d : D} {x : V} {T : BT} (R : RH K ca W a H) (rx : RelD K W d x) (h : T.is a d = true) : tyV K T.nm x H := by
  cases T with
  | list => exact tyV_list R rx h
  | dict => exact tyV_dict R rx h
  | str =>
    cases d <;> first | (cases h; done) | skip
    rw [show x = V.str _ from rx]; rfl
theorem de_bm {T : BT} {id : String} {rr : V → List V → Hp → VK → Prop} {r : D → List D → A → DQ → Prop} (pa : PlainAttrs T.nm) (slot : Slot T.nm name id) (hty : typeOf (.builtin id) = pure (.type "method_descriptor")) (hm : MtR X id rr) (hr : MtD X.K ca rr r) (ho : DE X ca W0 o to) (ha : DA X ca W0 (e :: es) ts)
    (hbase : attributeBase o name X.env (eval o X.env) = eval o X.env := by rfl)
    (hfew : ((backTo cpos (starEach (e :: es) X.env)).all (fun x => !x.1) && (backToKw cpos (keywordEach [] X.env)).all (fun x => x.1.isSome)
      && decide ((e :: es).length + ([] : List Keyword).length + (if ([] : List Keyword).isEmpty then 0 else 1) < 30)) = true := by rfl)
    (hline : (apos.endLine == cpos.line) = true := by rfl) (hs : starEach (e :: es) X.env = (false, eval e X.env) :: starEach es X.env := by rfl) (hplain : (backTo cpos (starEach es X.env)).any (·.1) = false := by rfl) :
    DE X ca W0 (.Call (.Attribute o name apos) (e :: es) [] cpos) (wBM T r to ts) := by
  obtain ⟨to', po, ho⟩ := ho
  obtain ⟨ta', pa', ha⟩ := ha
  refine ⟨_, pe_bm pa slot hty hm po pa' hbase hfew hline hs hplain, fun W a H ρ σ Q Q2 R h k => ho W a H ρ σ _ _ R h fun x H1 W1 a1 d l1 R1 r1 q1 => ?_⟩
  refine ⟨tyV_ok R1 r1 q1.1, ha W1 a1 H1 ρ σ _ _ (R.next l1 R1) q1.2 fun xs H2 W2 a2 ds l2 R2 r2 q2 => ?_⟩
  exact hr W2 a2 H2 d ds x xs Q Q2 R2 (r1.le l2) r2 q2 (k.le (l1.trans l2))
theorem de_bm0 {T : BT} {id : String} {rr : V → List V → Hp → VK → Prop} {r : D → List D → A → DQ → Prop} (pa : PlainAttrs T.nm) (slot : Slot T.nm name id) (hty : typeOf (.builtin id) = pure (.type "method_descriptor")) (hm : MtR X id rr) (hr : MtD X.K ca rr r) (ho : DE X ca W0 o to)
    (hbase : attributeBase o name X.env (eval o X.env) = eval o X.env := by rfl) (hline : (apos.endLine == cpos.line) = true := by rfl) :
    DE X ca W0 (.Call (.Attribute o name apos) [] [] cpos) (wBM T r to wNil) := by
  obtain ⟨to', po, ho⟩ := ho
  refine ⟨_, pe_bm0 pa slot hty hm po hbase hline, fun W a H ρ σ Q Q2 R h k => ho W a H ρ σ _ _ R h fun x H1 W1 a1 d l1 R1 r1 q1 => ?_⟩
  exact ⟨tyV_ok R1 r1 q1.1, hr W1 a1 H1 d [] x [] Q Q2 R1 r1 rfl q1.2 (k.le l1)⟩
end
section
variable {K : PySem.W.Frag} {ca : Ci}
theorem Kont.non {W : Wo} {a : A} {H : Hp} {Q : DQ} {Q2 : VK} (k : Kont K ca W Q Q2) (R : RH K ca W a H) (q : Q .non a) : Q2 .non H := k _ H W a .non .refl R rfl q
/-- a list that may change -/
def locL (a : A) : D → Option (Nat × List D)
  | .loc n => match a[n]? with | some (.lst ds) => some (n, ds) | _ => none
  | _ => none
theorem RH.locL {W : Wo} {a : A} {H : Hp} {d : D} {x : V} {n : Nat} {ds : List D} (R : RH K ca W a H) (rx : RelD K W d x) (h : locL a d = some (n, ds)) : a[n]? = some (.lst ds) ∧ x = .ref (W.ι n) ∧ ∃ vs, H (W.ι n) = some (.lst vs) ∧ RelDs K W ds vs := by
  cases d with
  | loc m =>
    obtain ⟨hn, e⟩ := rx
    unfold DW.locL at h
    cases q : a[m]? with
    | none => simp [q] at h
    | some ao =>
      cases ao with
      | lst es =>
        simp [q] at h
        obtain ⟨h1, h2⟩ := h
        subst h1; subst h2
        exact ⟨q, e, R.obj m _ q⟩
      | dic _ _ => simp [q] at h
      | obj _ _ => simp [q] at h
      | dead => simp [q] at h
  | _ => simp [DW.locL] at h
/-- .. gets other items -/
theorem RH.putL {W : Wo} {a : A} {H : Hp} {n : Nat} {ds ds' : List D} {vs' : List V} (R : RH K ca W a H) (h : a[n]? = some (.lst ds)) (r : RelDs K W ds' vs') : RH K ca W (a.set n (.lst ds')) (upd H (W.ι n) (.lst vs')) :=
  R.put h (by intro z; cases z) ⟨vs', upd_same, r⟩ (by intro z; cases z)
def rAppend (d : D) (ds : List D) (a : A) (Q : DQ) : Prop := match ds with
  | [x] => match locL a d with | some (n, xs) => Fits (xs.length + 1) ∧ Q .non (a.set n (.lst (xs ++ [x]))) | none => False
  | _ => False
theorem om_append : MtD K ca L2.rAppend rAppend := by
  intro W a H d ds x xs Q Q2 R rx rs h k
  unfold rAppend at h
  split at h
  · rename_i z
    obtain ⟨y, e, ry⟩ := rel1 rs
    subst e
    cases hd : locL a d with
    | none => simp [hd] at h
    | some t =>
      obtain ⟨n, es⟩ := t
      simp only [hd] at h
      obtain ⟨q, ex, vs, hH, r⟩ := R.locL rx hd
      subst ex
      exact ⟨_, vs, y, rfl, rfl, hH, by rw [← r.length]; exact h.1.le, k.non (R.putL q (r.append (.cons ry .nil))) h.2⟩
  · exact h.elim
def rExtend (d : D) (ds : List D) (a : A) (Q : DQ) : Prop := match ds with
  | [x] => match locL a d, vwL a x with | some (n, xs), some ys => Fits (xs.length + ys.length) ∧ Q .non (a.set n (.lst (xs ++ ys))) | _, _ => False
  | _ => False
theorem om_extend : MtD K ca L2.rExtend rExtend := by
  intro W a H d ds x xs Q Q2 R rx rs h k
  unfold rExtend at h
  split at h
  · rename_i z
    obtain ⟨y, e, ry⟩ := rel1 rs
    subst e
    cases hd : locL a d with
    | none => simp [hd] at h
    | some t =>
      cases hz : vwL a z with
      | none => simp [hd, hz] at h
      | some ys =>
        obtain ⟨n, es⟩ := t
        simp only [hd, hz] at h
        obtain ⟨q, ex, vs, hH, r⟩ := R.locL rx hd
        obtain ⟨p, us, ey, g, r'⟩ := R.vwL ry hz
        subst ex
        subst ey
        exact ⟨_, p, vs, us, rfl, rfl, hH, g, by rw [← r.length, ← r'.length]; exact h.1.le, k.non (R.putL q (r.append r')) h.2⟩
  · exact h.elim
def rInsert (d : D) (ds : List D) (a : A) (Q : DQ) : Prop := match ds with
  | [.int i, x] => match locL a d with | some (n, xs) => Fits (xs.length + 1) ∧ 0 ≤ i ∧ i < 2 ^ 63 ∧ Q .non (a.set n (.lst (xs.take i.toNat ++ [x] ++ xs.drop i.toNat))) | none => False
  | _ => False
theorem om_insert : MtD K ca (fun x vs H Q => ∃ (l : Addr) (xs : List V) (i : Int) (y : V), x = .ref l ∧ vs = [.int i, y] ∧ H l = some (.lst xs) ∧ xs.length < sizeLine ∧ 0 ≤ i ∧ i < 2 ^ 63 ∧
    Q .non (upd H l (.lst (xs.take i.toNat ++ [y] ++ xs.drop i.toNat)))) rInsert := by
  intro W a H d ds x xs Q Q2 R rx rs h k
  unfold rInsert at h
  split at h
  · rename_i i z
    obtain ⟨u, y, e, ru, ry⟩ := rel2 rs
    subst e
    cases hd : locL a d with
    | none => simp [hd] at h
    | some t =>
      obtain ⟨n, es⟩ := t
      simp only [hd] at h
      obtain ⟨q, ex, vs, hH, r⟩ := R.locL rx hd
      subst ex
      rw [show u = V.int i from ru]
      exact ⟨_, vs, i, y, rfl, rfl, hH, by rw [← r.length]; exact h.1.le, h.2.1, h.2.2.1, k.non (R.putL q (((r.take _).append (.cons ry .nil)).append (r.drop _))) h.2.2.2⟩
  · exact h.elim
def rPop (d : D) (ds : List D) (a : A) (Q : DQ) : Prop := match ds with
  | [] => match locL a d with | some (n, xs) => (match xs[xs.length - 1]? with | some y => Q y (a.set n (.lst xs.dropLast)) | none => False) | none => False
  | _ => False
theorem om_pop : MtD K ca L2.rPop rPop := by
  intro W a H d ds x xs Q Q2 R rx rs h k
  unfold rPop at h
  split at h
  · cases hd : locL a d with
    | none => simp [hd] at h
    | some t =>
      obtain ⟨n, es⟩ := t
      simp only [hd] at h
      obtain ⟨q, ex, vs, hH, r⟩ := R.locL rx hd
      subst ex
      cases hy : es[es.length - 1]? with
      | none => rw [hy] at h; exact h.elim
      | some y =>
        rw [hy] at h
        obtain ⟨v, hv, rv⟩ := r.get hy
        rw [show xs = [] from rs]
        exact ⟨_, vs, v, rfl, rfl, hH, by rw [← r.length]; exact hv, k _ _ W _ y .refl (R.putL q r.dropLast) rv h⟩
  · exact h.elim
def rPopAt (d : D) (ds : List D) (a : A) (Q : DQ) : Prop := match ds with
  | [.int i] => -(2 ^ 63) ≤ i ∧ i < 2 ^ 63 ∧ (match locL a d with | some (n, xs) => (match seqIndex? i xs.length with | some j => (match xs[j]? with | some y => Q y (a.set n (.lst (xs.eraseIdx j))) | none => False) | none => False) | none => False)
  | _ => False
theorem om_popAt : MtD K ca L2.rPopAt rPopAt := by
  intro W a H d ds x xs Q Q2 R rx rs h k
  unfold rPopAt at h
  split at h
  · rename_i i
    obtain ⟨u, e, ru⟩ := rel1 rs
    subst e
    obtain ⟨h1, h2, h⟩ := h
    cases hd : locL a d with
    | none => simp [hd] at h
    | some t =>
      obtain ⟨n, es⟩ := t
      simp only [hd] at h
      obtain ⟨q, ex, vs, hH, r⟩ := R.locL rx hd
      subst ex
      cases hj : seqIndex? i es.length with
      | none => simp [hj] at h
      | some j =>
        simp only [hj] at h
        cases hy : es[j]? with
        | none => rw [hy] at h; exact h.elim
        | some y =>
          rw [hy] at h
          obtain ⟨v, hv, rv⟩ := r.get hy
          rw [show u = V.int i from ru]
          exact ⟨_, vs, i, j, v, rfl, rfl, hH, h1, h2, by rw [← r.length]; exact hj, hv, k _ _ W _ y .refl (R.putL q (r.eraseIdx j)) rv h⟩
  · exact h.elim
end

/-! ## Attributes -/
def objV (a : A) (cn : Nat) : D → Option (Nat × List D)
  | .loc n => match a[n]? with | some (.obj c vs) => if c = cn then some (n, vs) else none | _ => none
  | _ => none
theorem RH.objV {K : PySem.W.Frag} {ca : Ci} {W : Wo} {a : A} {H : Hp} {d : D} {x : V} {cn n : Nat} {ds : List D} (R : RH K ca W a H) (rx : RelD K W d x) (h : objV a cn d = some (n, ds)) :
    d = .loc n ∧ a[n]? = some (.obj cn ds) ∧ x = .ref (W.ι n) ∧ ∃ dx fv, H (W.ι n) = some (.ins (ca.ad cn) dx fv) ∧ fv.map (·.1) = (ca.nm cn).take ds.length ∧ RelDs K W ds (fv.map (·.2)) := by
  cases d with
  | loc m =>
    obtain ⟨hn, e⟩ := rx
    unfold DW.objV at h
    cases q : a[m]? with
    | none => simp [q] at h
    | some ao =>
      cases ao with
      | obj c es =>
        simp only [q] at h
        by_cases hc : c = cn
        · rw [if_pos hc] at h
          cases h
          subst hc
          exact ⟨rfl, q, e, R.obj _ _ q⟩
        · rw [if_neg hc] at h; cases h
      | dic _ _ => simp [q] at h
      | lst _ => simp [q] at h
      | dead => simp [q] at h
  | _ => simp [DW.objV] at h
theorem lookup_at : ∀ {fv : List (Str × V)} {ns : List Str} {i : Nat} {f : Str} {v : V}, ns.Nodup → fv.map (·.1) = ns → ns[i]? = some f → (fv.map (·.2))[i]? = some v → fv.lookup f = some v
  | [], ns, i, f, v, _, _, _, h => by simp at h
  | p :: fv, ns, 0, f, v, hN, e, hi, hv => by
    subst e
    simp at hi hv
    rw [List.lookup_cons]
    rw [hi, beq_self_eq_true]
    exact congrArg some hv
  | p :: fv, ns, i + 1, f, v, hN, e, hi, hv => by
    subst e
    rw [List.map_cons, List.nodup_cons] at hN
    have hi' : (fv.map (·.1))[i]? = some f := by simpa using hi
    have ne : ¬ f = p.1 := fun z => hN.1 (by rw [← z]; exact List.mem_of_getElem? hi')
    rw [List.lookup_cons, beq_eq_false_iff_ne.mpr ne]
    exact lookup_at hN.2 rfl hi' (by simpa using hv)
theorem lookup_out : ∀ {fv : List (Str × V)} {f : Str}, f ∉ fv.map (·.1) → fv.lookup f = none
  | [], _, _ => rfl
  | p :: fv, f, h => by
    rw [List.map_cons, List.mem_cons, not_or] at h
    rw [List.lookup_cons, beq_eq_false_iff_ne.mpr h.1]
    exact lookup_out h.2
theorem putF_at : ∀ {fv : List (Str × V)} {ns : List Str} {i : Nat} {f : Str} (v : V), ns.Nodup → fv.map (·.1) = ns → ns[i]? = some f → (putF f v fv).map (·.1) = ns ∧ (putF f v fv).map (·.2) = (fv.map (·.2)).set i v
  | [], ns, i, f, v, _, e, hi => by subst e; simp at hi
  | p :: fv, ns, 0, f, v, hN, e, hi => by
    subst e
    simp at hi
    rw [show putF f v (p :: fv) = (if p.1 = f then (p.1, v) :: fv else p :: putF f v fv) from rfl, if_pos hi]
    exact ⟨rfl, rfl⟩
  | p :: fv, ns, i + 1, f, v, hN, e, hi => by
    subst e
    rw [List.map_cons, List.nodup_cons] at hN
    have hi' : (fv.map (·.1))[i]? = some f := by simpa using hi
    have ne : ¬ p.1 = f := fun z => hN.1 (by rw [z]; exact List.mem_of_getElem? hi')
    obtain ⟨h1, h2⟩ := putF_at v hN.2 rfl hi'
    rw [show putF f v (p :: fv) = (if p.1 = f then (p.1, v) :: fv else p :: putF f v fv) from rfl, if_neg ne]
    exact ⟨by rw [List.map_cons, List.map_cons, h1], by rw [List.map_cons, List.map_cons, h2]; rfl⟩
theorem putF_new : ∀ {fv : List (Str × V)} {f : Str} (v : V), f ∉ fv.map (·.1) → putF f v fv = fv ++ [(f, v)]
  | [], _, _, _ => rfl
  | p :: fv, f, v, h => by
    rw [List.map_cons, List.mem_cons, not_or] at h
    rw [show putF f v (p :: fv) = (if p.1 = f then (p.1, v) :: fv else p :: putF f v fv) from rfl, if_neg (fun z => h.1 z.symm), putF_new v h.2]
    rfl
def wFld (cn i : Nat) (t : TE') : TE' := fun ρ a Q => t ρ a fun d a1 => match objV a1 cn d with | some (_, vs) => (match vs[i]? with | some x => Q x a1 | none => False) | none => False
/-- behind o.f = x -/
def setFld (a : A) (n cn i : Nat) (vs : List D) (x : D) : A := a.set n (.obj cn (if i < vs.length then vs.set i x else vs ++ [x]))
section
variable {X : Cx} {ca : Ci} {W0 : Bw} {pos apos cpos p pos' : Pos} {o e f' : Expr} {es : List Expr} {to te : TE'} {ts : TA'} {f m x : Str} {cn i : Nat}
theorem de_fld (hc : Cls X.K (ca.ad cn)) (hn : NoAttr X.K (ca.ad cn) f) (hN : (ca.nm cn).Nodup) (hi : (ca.nm cn)[i]? = some f) (ho : DE X ca W0 o to) (hb : attributeBase o f X.env (eval o X.env) = eval o X.env := by rfl) : DE X ca W0 (.Attribute o f pos) (wFld cn i to) := by
  obtain ⟨to', po, ho⟩ := ho
  refine ⟨_, pe_fld po hb, fun W a H ρ σ Q Q2 R h k => ho W a H ρ σ _ _ R h fun v H1 W1 a1 d l1 R1 r1 q1 => ?_⟩
  cases hd : objV a1 cn d with
  | none => simp [hd] at q1
  | some t =>
    obtain ⟨n, vs⟩ := t
    simp only [hd] at q1
    cases hx : vs[i]? with
    | none => rw [hx] at q1; exact q1.elim
    | some z =>
      rw [hx] at q1
      obtain ⟨_, q, ev, dx, fv, hH, hk, r⟩ := R1.objV r1 hd
      obtain ⟨u, hu, ru⟩ := r.get hx
      have hlt : i < vs.length := (List.getElem?_eq_some_iff.mp hx).1
      refine ⟨_, _, dx, fv, u, ev, hH, hc, hn, lookup_at (hN.sublist (List.take_sublist _ _)) hk ?_ hu, k u H1 W1 a1 z l1 R1 ru q1⟩
      rw [List.getElem?_take, if_pos hlt]
      exact hi
end
/-! ## Calls of what is defined -/
abbrev Exq := Nat → List D → A → Prop
abbrev WSp := List D → A → DQ → Exq → Prop
def KontX (K : PySem.W.Frag) (ca : Ci) (W : Wo) (Ed : Exq) (E : XK) : Prop :=
  ∀ cn ps a' H' W', W.le W' → RH K ca W' a' H' → Ed cn ps a' → (ps = [] → E (.ref (ca.ad cn)) none H') ∧ (∀ d fv, H' d = some (.xd fv) → RelDs K W' ps (fv.map (·.2)) → fv.map (·.1) = ca.nm cn → ps ≠ [] → E (.ref (ca.ad cn)) (some d) H')
def spD (K : PySem.W.Frag) (ca : Ci) (S : WSp) : Sp := fun vs H Q E => ∃ W a ds Qd Ed, RH K ca W a H ∧ RelDs K W ds vs ∧ S ds a Qd Ed ∧ Kont K ca W Qd Q ∧ KontX K ca W Ed E
def noX : Exq := fun _ _ _ => False
theorem KontX.no {K : PySem.W.Frag} {ca : Ci} {W : Wo} {E : XK} : KontX K ca W noX E := fun _ _ _ _ _ _ _ h => h.elim
def wCall (S : WSp) (ts : TA') : TE' := fun ρ a Q => ts ρ a fun ds a1 => S ds a1 Q noX
def wMeth (cn : Nat) (S : WSp) (to : TE') (ts : TA') : TE' := fun ρ a Q => to ρ a fun d a1 => (objV a1 cn d).isSome = true ∧ ts ρ a1 fun ds a2 => S (d :: ds) a2 Q noX
def wMake (cn : Nat) (S : WSp) (ts : TA') : TE' := fun ρ a Q => ts ρ a fun ds a1 => S (.loc a1.length :: ds) (a1 ++ [.obj cn []]) (fun d a2 => d = .non ∧ a1.length < a2.length ∧ Q (.loc a1.length) a2) noX
/-- a def that is called by its name; a method; a class -/
structure CalD (P : Program) (w : World) (K : PySem.W.Frag) (mg : Str → Option Value) (base : Heap) (k : Nat) (x : Str) (sp : Sp) : Prop where
  ex : ∃ (f : Addr) (fd : FuncData) (ps : List Str), FnOk P w K mg base CX0 k f fd ps sp ∧ mg x = some (.ref f) ∧ PySem.W.keepIn K (.ref f) = true ∧ L2.Binds K fd ps []
structure MetD (P : Program) (w : World) (K : PySem.W.Frag) (mg : Str → Option Value) (base : Heap) (k : Nat) (C : Addr) (m : Str) (sp : Sp) : Prop where
  ex : ∃ (f : Addr) (fd : FuncData) (ps : List Str), Cls K C ∧ Meth K C m f ∧ FnOk P w K mg base CX0 k f fd ps sp ∧ L2.Binds K fd ps []
structure MakD (P : Program) (w : World) (K : PySem.W.Frag) (mg : Str → Option Value) (base : Heap) (k : Nat) (x : Str) (C : Addr) (sp : Sp) : Prop where
  ex : ∃ (f : Addr) (fd : FuncData) (ps : List Str), Mk K C f ∧ FnOk P w K mg base CX0 k f fd ps sp ∧ mg x = some (.ref C) ∧ L2.Binds K fd ps []
section
variable {X : Cx} {ca : Ci} {W0 : Bw} {pos apos cpos p pos' : Pos} {o e f' : Expr} {es : List Expr} {to te : TE'} {ts : TA'} {f m x : Str} {cn i j k : Nat} {S : WSp}
theorem de_call (c : CalD X.prog X.w X.K X.mg X.base k x (spD X.K ca S)) (hr : Room j X.A) (hk : k ≤ j) (hg : Gl X x) (ha : DA X ca W0 (e :: es) ts)
    (hdb : (x == ("__debug__" : Str)) = false := by decide) (he : starEach (e :: es) X.env = (false, eval e X.env) :: starEach es X.env := by rfl) (hpl : (backTo pos (starEach es X.env)).any (·.1) = false := by rfl) :
    DE X ca W0 (.Call (.Name x p) (e :: es) [] pos) (wCall S ts) := by
  obtain ⟨ta', pa', ha⟩ := ha
  obtain ⟨fa, fd, ps, F, hmg, kp, hb⟩ := c.ex
  refine ⟨_, pe_call F (hr.mono hk) hg hmg kp hb .nil pass0 pa' hdb he hpl, fun W a H ρ σ Q Q2 R h k => ha W a H ρ σ _ _ R h fun vs H1 W1 a1 ds l1 R1 r1 q1 => ?_⟩
  rw [List.append_nil]
  exact ⟨W1, a1, ds, Q, noX, R1, r1, q1, k.le l1, .no⟩
theorem de_meth {pl : Sem Bool} (c : MetD X.prog X.w X.K X.mg X.base k (ca.ad cn) m (spD X.K ca S)) (hm : m ∉ ca.nm cn) (hr : Room j X.A) (hk : k ≤ j) (ho : DE X ca W0 o to) (ha : DA X ca W0 (e :: es) ts)
    (hst : starEach (e :: es) X.env = (false, eval e X.env) :: starEach es X.env := by rfl) (hpl : (backTo pos (starEach es X.env)).any (·.1) = false := by rfl)
    (ht : eval (.Call (.Attribute o m apos) (e :: es) [] pos) X.env = (do
      let ov ← eval o X.env
      standAt apos.atName
      let (f, first) ← holding [ov] (getMethod ov m pl)
      callWith pos f first (backTo pos (starEach (e :: es) X.env)) (backToKw pos (keywordEach [] X.env))) := by rfl) :
    DE X ca W0 (.Call (.Attribute o m apos) (e :: es) [] pos) (wMeth cn S to ts) := by
  obtain ⟨to', po, ho⟩ := ho
  obtain ⟨ta', pa', ha⟩ := ha
  obtain ⟨fa, fd, ps, hc, hM, F, hb⟩ := c.ex
  refine ⟨_, pe_meth (pl := pl) po hc hM F (hr.mono hk) hb .nil pass0 pa' hst hpl ht, fun W a H ρ σ Q Q2 R h k => ho W a H ρ σ _ _ R h fun x H1 W1 a1 d l1 R1 r1 q1 => ?_⟩
  obtain ⟨hq, q1⟩ := q1
  obtain ⟨⟨n, vs⟩, hd⟩ := Option.isSome_iff_exists.mp hq
  obtain ⟨_, q, ev, dx, fv, hH, hk', r⟩ := R1.objV r1 hd
  refine ⟨_, dx, fv, ev, hH, lookup_out (by rw [hk']; exact fun z => hm (List.mem_of_mem_take z)), ha W1 a1 H1 ρ σ _ _ (R.next l1 R1) q1 fun xs H2 W2 a2 ds l2 R2 r2 q2 => ?_⟩
  rw [List.append_nil]
  exact ⟨W2, a2, d :: ds, Q, noX, R2, .cons (r1.le l2) r2, q2, k.le (l1.trans l2), .no⟩
theorem de_meth0 {pl : Sem Bool} (c : MetD X.prog X.w X.K X.mg X.base k (ca.ad cn) m (spD X.K ca S)) (hm : m ∉ ca.nm cn) (hr : Room j X.A) (hk : k ≤ j) (ho : DE X ca W0 o to)
    (ht : eval (.Call (.Attribute o m apos) [] [] pos) X.env = (do
      let ov ← eval o X.env
      standAt apos.atName
      let (f, first) ← holding [ov] (getMethod ov m pl)
      callWith pos f first (backTo pos (starEach [] X.env)) (backToKw pos (keywordEach [] X.env))) := by rfl) :
    DE X ca W0 (.Call (.Attribute o m apos) [] [] pos) (wMeth cn S to wNil) := by
  obtain ⟨to', po, ho⟩ := ho
  obtain ⟨fa, fd, ps, hc, hM, F, hb⟩ := c.ex
  refine ⟨_, pe_meth0 (pl := pl) po hc hM F (hr.mono hk) hb .nil pass0 ht, fun W a H ρ σ Q Q2 R h k => ho W a H ρ σ _ _ R h fun x H1 W1 a1 d l1 R1 r1 q1 => ?_⟩
  obtain ⟨hq, q1⟩ := q1
  obtain ⟨⟨n, vs⟩, hd⟩ := Option.isSome_iff_exists.mp hq
  obtain ⟨_, q, ev, dx, fv, hH, hk', r⟩ := R1.objV r1 hd
  refine ⟨_, dx, fv, ev, hH, lookup_out (by rw [hk']; exact fun z => hm (List.mem_of_mem_take z)), ?_⟩
  show spD X.K ca S ([x] ++ []) H1 Q2 E0
  exact ⟨W1, a1, [d], Q, noX, R1, .cons r1 .nil, q1, k.le l1, .no⟩
theorem made {K : PySem.W.Frag} {W W1 : Wo} {a1 : A} {H1 : Hp} {ds : List D} {vs : List V} {Q : DQ} {Q2 : VK} {E : XK} (l1 : W.le W1) (R1 : RH K ca W1 a1 H1) (r1 : RelDs K W1 ds vs)
    (q1 : S (.loc a1.length :: ds) (a1 ++ [.obj cn []]) (fun d a2 => d = .non ∧ a1.length < a2.length ∧ Q (.loc a1.length) a2) noX) (k : Kont K ca W Q Q2) :
    ∀ x dx, H1 x = none → H1 dx = none → dx ≠ x → spD K ca S (.ref x :: vs) (upd (upd H1 dx (.own x)) x (.ins (ca.ad cn) dx [])) (fun v H2 => v = .non ∧ Q2 (.ref x) H2) E := by
  intro x dx hx hdx ne
  have R2 := R1.newU hdx (.own x)
  have hx2 : upd H1 dx (.own x) x = none := by rw [upd_ne (fun z => ne z.symm)]; exact hx
  have R3 := R2.newL hx2 (ao := .obj cn []) (o := .ins (ca.ad cn) dx []) ⟨dx, [], upd_same, by simp, rfl⟩
  have hlen : W1.N = a1.length := R1.len
  have rx : RelD K (W1.add x) (.loc a1.length) (.ref x) := ⟨by rw [← hlen]; exact Nat.lt_succ_self _, by rw [← hlen, Wo.add_ι]⟩
  refine ⟨W1.add x, _, _, _, noX, R3, .cons rx (r1.le (W1.add_le x)), q1, fun v H' W' A' d l R' rd q => ?_, .no⟩
  · obtain ⟨e, hl, q⟩ := q
    subst e
    refine ⟨rd, k _ H' W' A' (.loc a1.length) (l1.trans ((W1.add_le x).trans l)) R' ⟨by rw [R'.len]; exact hl, ?_⟩ q⟩
    rw [l.ι _ (by rw [← hlen]; exact Nat.lt_succ_self _), ← hlen, Wo.add_ι]
theorem de_make (c : MakD X.prog X.w X.K X.mg X.base k x (ca.ad cn) (spD X.K ca S)) (hr : Room j X.A) (hk : k + 1 ≤ j) (hg : Gl X x) (ha : DA X ca W0 (e :: es) ts)
    (hdb : (x == ("__debug__" : Str)) = false := by decide) (he : starEach (e :: es) X.env = (false, eval e X.env) :: starEach es X.env := by rfl) (hpl : (backTo pos (starEach es X.env)).any (·.1) = false := by rfl) :
    DE X ca W0 (.Call (.Name x p) (e :: es) [] pos) (wMake cn S ts) := by
  obtain ⟨ta', pa', ha⟩ := ha
  obtain ⟨fa, fd, ps, M, F, hmg, hb⟩ := c.ex
  refine ⟨_, pe_make M F (hr.mono hk) hg hmg hb .nil pass0 pa' hdb he hpl, fun W a H ρ σ Q Q2 R h k => ha W a H ρ σ _ _ R h fun vs H1 W1 a1 ds l1 R1 r1 q1 => ?_⟩
  rw [List.append_nil]
  exact made l1 R1 r1 q1 k
theorem de_make0 (c : MakD X.prog X.w X.K X.mg X.base k x (ca.ad cn) (spD X.K ca S)) (hr : Room j X.A) (hk : k + 1 ≤ j) (hg : Gl X x) (hdb : (x == ("__debug__" : Str)) = false := by decide) :
    DE X ca W0 (.Call (.Name x p) [] [] pos) (wMake cn S wNil) := by
  obtain ⟨fa, fd, ps, M, F, hmg, hb⟩ := c.ex
  refine ⟨_, pe_make0 M F (hr.mono hk) hg hmg hb .nil pass0 hdb, fun W a H ρ σ Q Q2 R h k => ?_⟩
  exact made (ds := []) (vs := []) .refl R.rh rfl h k
end
end DW
set_option Elab.async false
set_option linter.all false
set_option maxRecDepth 100000
set_option maxHeartbeats 1000000
namespace DW
open PySem PySem.Spec PyProof.Rows L2
/-! ## Targets -/
inductive Tg where | nm (i : Nat) | tp (ts : List Tg) | ul (ts : List Tg)
mutual
def Tg.put : Tg → D → En → Option En
  | .nm i, d, ρ => some (ρ.set i (some d))
  | .tp ts, d, ρ => match vwT d with | some ds => Tg.puts ts ds ρ | none => none
  | .ul ts, d, ρ => match d with | .lst ds => Tg.puts ts ds ρ | _ => none
def Tg.puts : List Tg → List D → En → Option En
  | [], ds, ρ => match ds with | [] => some ρ | _ => none
  | t :: ts, ds, ρ => match ds with | d :: ds => (match t.put d ρ with | some ρ' => Tg.puts ts ds ρ' | none => none) | [] => none
end
mutual
def Tg.hs (K : PySem.W.Frag) : Tg → TG
  | .nm i => gName i
  | .tp ts => gTup K ts.length (Tg.hss K ts)
  | .ul ts => gUnl K ts.length (Tg.hss K ts)
def Tg.hss (K : PySem.W.Frag) : List Tg → TGs
  | [] => gNil
  | t :: ts => gCons (t.hs K) (Tg.hss K ts)
end
mutual
def Tg.sl : Tg → List Nat
  | .nm i => [i]
  | .tp ts => Tg.sls ts
  | .ul ts => Tg.sls ts
def Tg.sls : List Tg → List Nat
  | [] => []
  | t :: ts => t.sl ++ Tg.sls ts
end
theorem wipe_set {σ : L2.St} {i : Nat} {o : Option V} : ∀ {vs : List Nat}, i ∈ vs → wipe (σ.set i o) vs = wipe σ vs := by
  have comm : ∀ (vs : List Nat) (σ : L2.St) (i : Nat), (wipe σ vs).set i none = wipe (σ.set i none) vs := by
    intro vs
    induction vs with
    | nil => intro σ i; rfl
    | cons v vs ih =>
      intro σ i
      show ((wipe σ vs).set v none).set i none = (wipe (σ.set i none) vs).set v none
      by_cases e : v = i
      · subst e; rw [← ih, List.set_set]
      · rw [List.set_comm _ _ e, ih]
  intro vs h
  induction vs generalizing σ with
  | nil => cases h
  | cons v vs ih =>
    show (wipe (σ.set i o) vs).set v none = (wipe σ vs).set v none
    rcases List.mem_cons.mp h with e | h
    · subst e
      rw [comm, comm, List.set_set]
    · rw [ih h]
section
variable {K : PySem.W.Frag} {ca : Ci} {W0 : Bw}
theorem Tg.puts_length : ∀ {ts : List Tg} {ds : List D} {ρ ρ' : En}, Tg.puts ts ds ρ = some ρ' → ts.length = ds.length
  | [], [], _, _, _ => rfl
  | [], _ :: _, _, _, h => by simp [Tg.puts] at h
  | _ :: _, [], _, _, h => by simp [Tg.puts] at h
  | t :: ts, d :: ds, ρ, ρ', h => by
    unfold Tg.puts at h
    simp only at h
    cases e : t.put d ρ with
    | none => simp [e] at h
    | some ρ1 => simp only [e] at h; rw [List.length_cons, List.length_cons, Tg.puts_length h]
mutual
theorem Tg.ok : ∀ (t : Tg) {W : Wo} {a : A} {H : Hp} {ρ ρ' : En} {σ : L2.St} {d : D} {v : V} {Q : L2.St → Hp → Prop}, RS K ca W0 W a H ρ σ → RelD K W d v → t.put d ρ = some ρ' →
    (∀ σ', RS K ca W0 W a H ρ' σ' → (∀ vs : List Nat, (∀ i ∈ t.sl, i ∈ vs) → wipe σ' vs = wipe σ vs) → Q σ' H) → t.hs K v σ H Q
  | .nm i, W, a, H, ρ, ρ', σ, d, v, Q, R, r, h, k => by
    cases h
    exact k _ (R.store r) fun vs hv => wipe_set (hv i (by simp [Tg.sl]))
  | .tp ts, W, a, H, ρ, ρ', σ, d, v, Q, R, r, h, k => by
    unfold Tg.put at h
    cases e : vwT d with
    | none => simp [e] at h
    | some ds =>
      simp only [e] at h
      obtain ⟨p, vs, ev, g, rs⟩ := R.rh.vwT r e
      exact ⟨p, vs, ev, g, by rw [← rs.length]; exact (Tg.puts_length h).symm, Tg.oks ts R rs h k⟩
  | .ul ts, W, a, H, ρ, ρ', σ, d, v, Q, R, r, h, k => by
    unfold Tg.put at h
    cases d with
    | lst ds =>
      simp only at h
      obtain ⟨p, vs, ev, g, rs⟩ := R.rh.vwS r rfl
      exact ⟨p, vs, ev, g, by rw [← rs.length]; exact (Tg.puts_length h).symm, Tg.oks ts R rs h k⟩
    | _ => simp at h
theorem Tg.oks : ∀ (ts : List Tg) {W : Wo} {a : A} {H : Hp} {ρ ρ' : En} {σ : L2.St} {ds : List D} {vs : List V} {Q : L2.St → Hp → Prop}, RS K ca W0 W a H ρ σ → RelDs K W ds vs → Tg.puts ts ds ρ = some ρ' →
    (∀ σ', RS K ca W0 W a H ρ' σ' → (∀ vs : List Nat, (∀ i ∈ Tg.sls ts, i ∈ vs) → wipe σ' vs = wipe σ vs) → Q σ' H) → Tg.hss K ts vs σ H Q
  | [], W, a, H, ρ, ρ', σ, ds, vs, Q, R, r, h, k => by
    cases ds with
    | nil =>
      cases h
      exact ⟨r, k σ R fun _ _ => rfl⟩
    | cons d ds => simp [Tg.puts] at h
  | t :: ts, W, a, H, ρ, ρ', σ, ds, vs, Q, R, r, h, k => by
    cases ds with
    | nil => simp [Tg.puts] at h
    | cons d ds =>
      obtain ⟨v, ws, e, r1, rs⟩ := r
      unfold Tg.puts at h
      simp only at h
      cases e1 : t.put d ρ with
      | none => simp [e1] at h
      | some ρ1 =>
        simp only [e1] at h
        refine ⟨v, ws, e, Tg.ok t R r1 e1 fun σ1 R1 w1 => Tg.oks ts R1 rs h fun σ2 R2 w2 => k σ2 R2 fun vs hv => ?_⟩
        rw [w2 vs fun i hi => hv i (by simp [Tg.sls, hi]), w1 vs fun i hi => hv i (by simp [Tg.sls, hi])]
end
end
def DG (X : Cx) (tg : Expr) (t : Tg) : Prop := PG X tg (t.hs X.K)
def DGs (X : Cx) (tgs : List Expr) (ts : List Tg) : Prop := PGs X tgs (Tg.hss X.K ts)
section
variable {X : Cx} {pos : Pos}
theorem dg_nm {i : Nat} {x : Str} (hN : X.N.Nodup) (hi : X.N[i]? = some x) (hx : Loc X.env.scope x) (hf : X.fn x = true ∨ X.env.scope.names.lookup x = some .local := by first | exact .inl rfl | exact .inr rfl | assumption) : DG X (.Name x pos) (.nm i) := pg_name hN hi hx hf
theorem dgs_nil : DGs X [] [] := pgs_nil
theorem dgs_cons {e : Expr} {es : List Expr} {t : Tg} {ts : List Tg} (h1 : DG X e t) (h2 : DGs X es ts)
    (hs : (assignEach (e :: es) X.env).map (·.2) = assign e X.env :: (assignEach es X.env).map (·.2) := by rfl) : DGs X (e :: es) (t :: ts) := pgs_cons h1 h2 hs
theorem dg_tp {es : List Expr} {k : Nat} {ts : List Tg} (hc : X.calm = true) (h : DGs X es ts) (hn : (assignEach es X.env).length = ts.length := by rfl) (hst : (assignEach es X.env).findIdx? (·.1) = none := by rfl) : DG X (.Tuple es k pos) (.tp ts) := pg_tup hc h hn hst
theorem dg_ul {es : List Expr} {k : Nat} {ts : List Tg} (hc : X.calm = true) (h : DGs X es ts) (hn : (assignEach es X.env).length = ts.length := by rfl) (hst : (assignEach es X.env).findIdx? (·.1) = none := by rfl) : DG X (.Tuple es k pos) (.ul ts) := pg_unl hc h hn hst
end

/-! ## Statements -/
def sNext : TS' := fun D ρ a => D.nx ρ a
def sSeq (t u : TS') : TS' := fun D ρ a => t { D with nx := u D } ρ a
def sSet (i : Nat) (t : TE') : TS' := fun D ρ a => t ρ a fun d a1 => D.nx (ρ.set i (some d)) a1
def sAsg (g : Tg) (t : TE') : TS' := fun D ρ a => t ρ a fun d a1 => match g.put d ρ with | some ρ' => D.nx ρ' a1 | none => False
def sExp (t : TE') : TS' := fun D ρ a => t ρ a fun _ a1 => D.nx ρ a1
def sRet (t : TE') : TS' := fun D ρ a => t ρ a D.rt
def sRetN : TS' := fun D _ a => D.rt .non a
def sIf (c : TT') (t u : TS') : TS' := fun D ρ a => c ρ a fun b a1 => if b = true then t D ρ a1 else u D ρ a1
def sBrk : TS' := fun D ρ a => D.bk ρ a
def sCnt : TS' := fun D ρ a => D.ct ρ a
section
variable {X : Cx} {ca : Ci} {W0 : Bw} {pos pos' apos : Pos} {e o : Expr} {te to ti : TE'} {s : Stmt} {ss rest : List Stmt} {t u : TS'}
theorem dss_nil : DSs X ca W0 [] sNext := ⟨_, pss_nil, fun W a H ρ σ D' E R h k => k.nx σ H W a ρ .refl R h⟩
theorem dss_cons (h1 : DS X ca W0 s t) (h2 : DSs X ca W0 rest u) : DSs X ca W0 (s :: rest) (sSeq t u) := by
  obtain ⟨ts, p1, h1⟩ := h1
  obtain ⟨us, p2, h2⟩ := h2
  refine ⟨_, pss_cons p1 p2, fun W a H ρ σ D' E R h k => h1 W a H ρ σ { D' with nx := u D' } { E with nx := us E } R h ⟨fun σ' H' W' A' ρ' l R' q => ?_, k.rt, k.bk, k.ct⟩⟩
  exact h2 W' A' H' ρ' σ' D' E R' q (k.le l)
theorem dss_one (h1 : DS X ca W0 s t) : DSs X ca W0 [s] t := by
  obtain ⟨ts, p1, h1⟩ := h1
  exact ⟨_, pss_one p1, h1⟩
theorem ds_pass : DS X ca W0 (.Pass pos) sNext := ⟨_, ps_pass, fun W a H ρ σ D' E R h k => k.nx σ H W a ρ .refl R h⟩
theorem ds_break : DS X ca W0 (.Break pos) sBrk := ⟨_, ps_break, fun W a H ρ σ D' E R h k => k.bk σ H W a ρ .refl R h⟩
theorem ds_continue : DS X ca W0 (.Continue pos) sCnt := ⟨_, ps_continue, fun W a H ρ σ D' E R h k => k.ct σ H W a ρ .refl R h⟩
theorem ds_doc {x j} : DS X ca W0 (.Expr (.Constant (.str x) j pos) pos') sNext := ⟨_, ps_doc, fun W a H ρ σ D' E R h k => k.nx σ H W a ρ .refl R h⟩
theorem ds_set {i : Nat} {x : Str} (hN : X.N.Nodup) (hi : X.N[i]? = some x) (hx : Loc X.env.scope x) (he : DE X ca W0 e te) (hs : swapsWith e (some (.Name x pos')) pos.line X.env = pure false := by rfl) (hf : X.fn x = true ∨ X.env.scope.names.lookup x = some .local := by first | exact .inl rfl | exact .inr rfl | assumption) :
    DS X ca W0 (.Assign [.Name x pos'] e pos) (sSet i te) := by
  obtain ⟨te', pe, he⟩ := he
  refine ⟨_, ps_set hN hi hx pe hs hf, fun W a H ρ σ D' E R h k => he W a H ρ σ _ _ R h fun v H1 W1 a1 d l1 R1 r1 q1 => ?_⟩
  exact k.nx _ H1 W1 a1 _ l1 ((R.next l1 R1).store r1) q1
theorem ds_asg {tg : Expr} {g : Tg} (he : DE X ca W0 e te) (hg : DG X tg g) (hs : swapsWithSole [tg] e pos.line X.env = pure false := by rfl) (hw : swappedStores [tg] e X.env = pure none := by rfl)
    (h1 : (assignEach [tg] X.env).map (·.2) = [assign tg X.env] := by rfl) : DS X ca W0 (.Assign [tg] e pos) (sAsg g te) := by
  obtain ⟨te', pe, he⟩ := he
  refine ⟨_, ps_asg pe hg hs hw h1, fun W a H ρ σ D' E R h k => he W a H ρ σ _ _ R h fun v H1 W1 a1 d l1 R1 r1 q1 => ?_⟩
  cases e : g.put d ρ with
  | none => rw [e] at q1; exact q1.elim
  | some ρ' =>
    rw [e] at q1
    exact Tg.ok g (R.next l1 R1) r1 e fun σ' R' _ => k.nx σ' H1 W1 a1 ρ' l1 R' q1
theorem ds_expr (he : DE X ca W0 e te) (hs : swapsWith e none pos.line X.env = pure false := by rfl) : DS X ca W0 (.Expr e pos) (sExp te) := by
  obtain ⟨te', pe, he⟩ := he
  exact ⟨_, ps_expr pe hs, fun W a H ρ σ D' E R h k => he W a H ρ σ _ _ R h fun v H1 W1 a1 d l1 R1 r1 q1 => k.nx σ H1 W1 a1 ρ l1 (R.next l1 R1) q1⟩
theorem ds_ret (he : DE X ca W0 e te) : DS X ca W0 (.Return (some e) pos) (sRet te) := by
  obtain ⟨te', pe, he⟩ := he
  exact ⟨_, ps_ret pe, fun W a H ρ σ D' E R h k => he W a H ρ σ _ _ R h k.rt⟩
theorem ds_retN : DS X ca W0 (.Return none pos) sRetN := ⟨_, ps_retN, fun W a H ρ σ D' E R h k => k.rt .non H W a .non .refl R.rh rfl h⟩
theorem ds_if {c : Expr} {tc : TT'} (hc : DT X ca W0 c tc) (h1 : DSs X ca W0 ss t) (h2 : DSs X ca W0 rest u) : DS X ca W0 (.If c ss rest pos) (sIf tc t u) := by
  obtain ⟨tc', pc, hc⟩ := hc
  obtain ⟨ts, p1, h1⟩ := h1
  obtain ⟨us, p2, h2⟩ := h2
  refine ⟨_, ps_if pc p1 p2, fun W a H ρ σ D' E R h k => hc W a H ρ σ _ _ R h fun b H1 W1 a1 l1 R1 q1 => ?_⟩
  cases b with
  | true => rw [if_pos rfl] at q1 ⊢; exact h1 W1 a1 H1 ρ σ D' E (R.next l1 R1) q1 (k.le l1)
  | false => rw [if_neg Bool.false_ne_true] at q1 ⊢; exact h2 W1 a1 H1 ρ σ D' E (R.next l1 R1) q1 (k.le l1)
/-! ### stores -/
def locD (a : A) : D → Option (Nat × Bool × List (D × D))
  | .loc n => match a[n]? with | some (.dic t kvs) => some (n, t, kvs) | _ => none
  | _ => none
theorem RH.locD {K : PySem.W.Frag} {W : Wo} {a : A} {H : Hp} {d : D} {x : V} {n : Nat} {t : Bool} {kvs : List (D × D)} (R : RH K ca W a H) (rx : RelD K W d x) (h : locD a d = some (n, t, kvs)) : a[n]? = some (.dic t kvs) ∧ x = .ref (W.ι n) ∧ ∃ ho, H (W.ι n) = some ho ∧ RelKV K W t kvs ho := by
  cases d with
  | loc m =>
    obtain ⟨hn, e⟩ := rx
    unfold DW.locD at h
    cases q : a[m]? with
    | none => simp [q] at h
    | some ao =>
      cases ao with
      | dic u es =>
        simp [q] at h
        obtain ⟨h1, h2, h3⟩ := h
        subst h1; subst h2; subst h3
        exact ⟨q, e, R.obj m _ q⟩
      | lst _ => simp [q] at h
      | obj _ _ => simp [q] at h
      | dead => simp [q] at h
  | _ => simp [DW.locD] at h
def setSub (o i d : D) (a : A) (Q : A → Prop) : Prop := match locL a o with
  | some (n, xs) => (match i with | .int k => (match ixN xs.length k with | some j => Q (a.set n (.lst (xs.set j d))) | none => False) | _ => False)
  | none => match locD a o with
    | some (n, t, kvs) => isKey t i = true ∧ Fits (kvs.length + 1) ∧ Q (a.set n (.dic t (putD kvs i d)))
    | none => False
abbrev rrSetSub : V → V → V → Hp → (Hp → Prop) → Prop := fun o i v H Q => rSetL o i v H Q ∨ ∃ a H', o = .ref a ∧ DPut H a i v H' ∧ Q H'
theorem oo_setSub (hu : X.A.units + 1 < cLine) : PSet X rrSetSub := by
  intro pins s σ H o i v ov iv u Q I ro ri rv h
  rcases h with h | ⟨a, H', rfl, g, q⟩
  · exact set_list pins s σ H o i v ov iv u Q I ro ri rv h
  · cases ro
    exact d_setItem hu I g ri rv fun s' I' => ⟨H', I', q⟩
theorem od_setSub {K : PySem.W.Frag} {W : Wo} {a : A} {H : Hp} {o i d : D} {x y z : V} {Q : A → Prop} {Q2 : Hp → Prop} (R : RH K ca W a H) (ro : RelD K W o x) (ri : RelD K W i y) (rd : RelD K W d z) (h : setSub o i d a Q)
    (k : ∀ H' a', RH K ca W a' H' → Q a' → Q2 H') : rrSetSub x y z H Q2 := by
  unfold setSub at h
  cases hL : locL a o with
  | some t =>
    obtain ⟨n, xs⟩ := t
    simp only [hL] at h
    cases i <;> first | exact (show False from h).elim | skip
    rename_i j
    simp only at h
    obtain ⟨q, ex, vs, hH, r⟩ := R.locL ro hL
    subst ex
    rw [show y = V.int j from ri]
    cases hj : ixN xs.length j with
    | none => rw [hj] at h; exact h.elim
    | some m =>
      rw [hj] at h
      exact .inl ⟨_, vs, j, m, rfl, rfl, hH, by rw [← r.length]; exact hj, k _ _ (R.putL q (RelDs.set rd m r)) h⟩
  | none =>
    simp only [hL] at h
    cases hD : locD a o with
    | none => rw [hD] at h; exact h.elim
    | some t =>
      obtain ⟨n, t, kvs⟩ := t
      simp only [hD] at h
      obtain ⟨hk, hz, h⟩ := h
      obtain ⟨q, ex, ho, hH, rel⟩ := R.locD ro hD
      subst ex
      refine .inr ?_
      rcases rel with ⟨e0, kv, e1, h1, h2⟩ | ⟨e0, kv, e1, h1, h2⟩
      · subst e0; subst e1
        obtain ⟨key, rfl⟩ := isKey_f hk
        rw [relD_key ri]
        have hl : kvs.length = kv.length := by rw [← List.length_map (f := fun x : D × D => x.1), h1, List.length_map]
        refine ⟨_, _, rfl, DPut.k hH (by rw [← hl]; exact hz.le), k _ _ (R.put (ao := .dic _ _) q (by intro z; cases z) ⟨_, upd_same, ?_⟩ (by intro z; cases z)) h⟩
        obtain ⟨g1, g2⟩ := put_rel (f := keyD) (fun _ _ => keyD_inj) key rd h1 h2
        exact .inl ⟨rfl, _, rfl, g1, g2⟩
      · subst e0; subst e1
        obtain ⟨key, rfl⟩ := isKey_t hk
        obtain ⟨b, us, ey, g, rs, _⟩ := id ri
        have eu := relDs_keys rs
        subst eu
        subst ey
        have hl : kvs.length = kv.length := by rw [← List.length_map (f := fun x : D × D => x.1), h1, List.length_map]
        refine ⟨_, _, rfl, DPut.t hH (R.sub _ _ g) (by rw [← hl]; exact hz.le), k _ _ (R.put (ao := .dic _ _) q (by intro z; cases z) ⟨_, upd_same, ?_⟩ (by intro z; cases z)) h⟩
        obtain ⟨g1, g2⟩ := put_rel (f := keysD) (fun _ _ => keysD_inj) key rd h1 h2
        exact .inr ⟨rfl, _, rfl, g1, g2⟩
def sSub (te to ti : TE') : TS' := fun D ρ a => te ρ a fun d a1 => to ρ a1 fun o a2 => ti ρ a2 fun i a3 => setSub o i d a3 fun a4 => D.nx ρ a4
theorem ds_sub {i : Expr} {tpos : Pos} (hu : X.A.units + 1 < cLine) (he : DE X ca W0 e te) (ho : DE X ca W0 o to) (hi : DE X ca W0 i ti)
    (ha : ∀ v, assign (.Subscript o i tpos) X.env v = (do
      let ov ← holding [v] (eval o X.env)
      let iv ← holding [v, ov] (eval i X.env)
      standAt tpos
      holding [v, ov, iv] (setItem ov iv v)
      release [v, ov, iv] []) := by intro _; rfl)
    (hs : swapsWithSole [.Subscript o i tpos] e pos.line X.env = pure false := by rfl) (hw : swappedStores [.Subscript o i tpos] e X.env = pure none := by rfl)
    (h1 : (assignEach [.Subscript o i tpos] X.env).map (·.2) = [assign (.Subscript o i tpos) X.env] := by rfl) : DS X ca W0 (.Assign [.Subscript o i tpos] e pos) (sSub te to ti) := by
  obtain ⟨te', pe, he⟩ := he
  obtain ⟨to', po, ho⟩ := ho
  obtain ⟨ti', pi, hi⟩ := hi
  refine ⟨_, ps_asg pe (pg_sub po pi (oo_setSub hu) ha) hs hw h1, fun W a H ρ σ D' E R h k => he W a H ρ σ _ _ R h fun v H1 W1 a1 d l1 R1 r1 q1 => ?_⟩
  refine ho W1 a1 H1 ρ σ _ _ (R.next l1 R1) q1 fun x H2 W2 a2 o l2 R2 r2 q2 => ?_
  refine hi W2 a2 H2 ρ σ _ _ (R.next (l1.trans l2) R2) q2 fun y H3 W3 a3 i l3 R3 r3 q3 => ?_
  exact od_setSub R3 (r2.le l3) r3 (r1.le (l2.trans l3)) q3 fun H' a' R' q' => k.nx σ H' W3 a' ρ (l1.trans (l2.trans l3)) (R.next (l1.trans (l2.trans l3)) R') q'
/-- o[i] for o[i] op= e -/
theorem pget_list : PGet X (rIxL X.K) := by
  intro pins s σ H x y v u Q I rx ry h
  obtain ⟨p, xs, i, z, rfl, rfl, hq, he, q⟩ := h
  cases rx
  obtain ⟨t, rfl⟩ := ry
  obtain ⟨its, r, pl, hz⟩ := I.list hq
  obtain ⟨j, h1, h2, h3, h4, h5⟩ := atI_get he
  obtain ⟨w, ew, rw'⟩ := r.get h2
  have hl := r.length
  have hn := line63
  have fin : EP X pins σ Q w s := ⟨z, H, I, rw', q⟩
  by_cases h0 : 0 ≤ i
  · have hj : i.toNat = j := by
      rw [seqIndex_of h0 h5] at h1
      exact Option.some.inj h1
    exact wpAny_getItem_list pl.isList h0 (by omega) (by rw [hj]; simpa using ew) fin
  · have hj : (i + (its.toArray.size : Int)).toNat = j := by
      rw [seqIndex_neg (by omega) h4] at h1
      rw [List.size_toArray, ← hl]
      exact Option.some.inj h1
    exact wpAny_getItem_list_neg pl.isList (by omega) (by rw [List.size_toArray] <;> omega) (by omega) (by rw [hj]; simpa using ew) fin
abbrev rrGet (K : PySem.W.Frag) : V → V → Hp → VK → Prop := fun x y H Q => rIxL K x y H Q ∨ (∃ a v, x = .ref a ∧ DGet H a y (some v) ∧ Q v H)
theorem oo_get (hu : X.A.units + 1 < cLine) : PGet X (rrGet X.K) := by
  intro pins s σ H x y v u Q I rx ry h
  rcases h with h | ⟨a, z, rfl, g, q⟩
  · exact pget_list pins s σ H x y v u Q I rx ry h
  · cases rx
    exact d_getItem hu I g ry fun w' s' I' rw' => ⟨z, H, I', rw', q⟩
def rGet (d e : D) (a : A) (Q : DQ) : Prop := match vwD a d with
  | some (t, kvs) => isKey t e = true ∧ (match look kvs e with | some x => Q x a | none => False)
  | none => match e with
    | .int i => (match vwS a d with
      | some ds => (match L2.atI ds i with | some x => Q x a | none => False)
      | none => False)
    | _ => False
theorem od_get {K : PySem.W.Frag} : Op2 K ca (rrGet K) rGet := by
  intro W a H d e x y Q Q2 R rx ry h k
  unfold rGet at h
  cases hd : vwD a d with
  | some tk =>
    obtain ⟨t, kvs⟩ := tk
    simp only [hd] at h
    obtain ⟨hk, h⟩ := h
    obtain ⟨p, ho, ex, hp, rel⟩ := R.vwD rx hd
    obtain ⟨o, g, q⟩ := dget_rel R hp rel hk ry
    rcases q with ⟨q, _⟩ | ⟨d', v', q1, q2, q3⟩
    · rw [q] at h; exact h.elim
    · rw [q1] at h
      subst q2
      exact .inr ⟨p, v', ex, g, k _ H W a _ .refl R q3 h⟩
  | none =>
    simp only [hd] at h
    cases e with
    | int i =>
      rw [show y = V.int i from ry]
      simp only at h
      cases hs : vwS a d with
      | some ds =>
        simp only [hs] at h
        cases hi : L2.atI ds i with
        | none => rw [hi] at h; exact h.elim
        | some z =>
          rw [hi] at h
          obtain ⟨p, vs, ex, g, rs⟩ := R.vwS rx hs
          obtain ⟨v, hv, rv⟩ := rs.atI hi
          exact .inl ⟨p, vs, i, v, ex, rfl, g, hv, k _ H W a _ .refl R rv h⟩
      | none => rw [hs] at h; exact h.elim
    | _ => exact (show False from h).elim
/-- o[i] op= e -/
def sAugSub (r : D → D → A → DQ → Prop) (to ti te : TE') : TS' := fun D ρ a => to ρ a fun o a1 => ti ρ a1 fun i a2 => rGet o i a2 fun x a3 => te ρ a3 fun y a4 => r x y a4 fun z a5 => setSub o i z a5 fun a6 => D.nx ρ a6
theorem ds_augsub {op : Operator} {i : Expr} {tpos : Pos} {rr : R2} {r : D → D → A → DQ → Prop} (hu : X.A.units + 1 < cLine) (ho : DE X ca W0 o to) (hi : DE X ca W0 i ti) (he : DE X ca W0 e te) (hp : OpR X (inplaceOp op) rr) (hr : Op2 X.K ca rr r)
    (ha : ∀ ov iv new, augStore i ov iv new = (do holding [new, ov, iv] (setItem ov iv new); release [new, ov, iv] []; pure .next) := by intros; rfl) : DS X ca W0 (.AugAssign (.Subscript o i tpos) op e pos) (sAugSub r to ti te) := by
  obtain ⟨te', pe, he⟩ := he
  obtain ⟨to', po, ho⟩ := ho
  obtain ⟨ti', pi, hi⟩ := hi
  refine ⟨_, ps_augS po pi (oo_get hu) pe (fun pins s σ H x y v u Q => hp pins s σ H x y v u Q) (oo_setSub hu) ha, fun W a H ρ σ D' E R h k => ho W a H ρ σ _ _ R h fun x H1 W1 a1 o l1 R1 r1 q1 => ?_⟩
  refine hi W1 a1 H1 ρ σ _ _ (R.next l1 R1) q1 fun y H2 W2 a2 i l2 R2 r2 q2 => ?_
  refine od_get W2 a2 H2 o i x y _ _ R2 (r1.le l2) r2 q2 fun z H3 W3 a3 d l3 R3 r3 q3 => ?_
  refine he W3 a3 H3 ρ σ _ _ (R.next (l1.trans (l2.trans l3)) R3) q3 fun w H4 W4 a4 d' l4 R4 r4 q4 => ?_
  refine hr W4 a4 H4 d d' z w _ _ R4 (r3.le l4) r4 q4 fun nv H5 W5 a5 nd l5 R5 r5 q5 => ?_
  have L := l1.trans (l2.trans (l3.trans (l4.trans l5)))
  exact od_setSub R5 (r1.le (l2.trans (l3.trans (l4.trans l5)))) (r2.le (l3.trans (l4.trans l5))) r5 q5 fun H' a' R' q' => k.nx σ H' W5 a' ρ L (R.next L R') q'
/-- x op= e -/
def sAug (i : Nat) (r : D → D → A → DQ → Prop) (te : TE') : TS' := fun D ρ a => match ρ[i]? with
  | some (some x) => te ρ a fun y a1 => r x y a1 fun z a2 => D.nx (ρ.set i (some z)) a2
  | _ => False
theorem ds_aug {op : Operator} {i : Nat} {x : Str} {rr : R2} {r : D → D → A → DQ → Prop} (hN : X.N.Nodup) (hi : X.N[i]? = some x) (hx : Loc X.env.scope x) (he : DE X ca W0 e te) (hp : OpR X (inplaceOp op) rr) (hr : Op2 X.K ca rr r)
    (hf : X.fn x = true ∨ X.env.scope.names.lookup x = some .local := by first | exact .inl rfl | exact .inr rfl | assumption) : DS X ca W0 (.AugAssign (.Name x pos') op e pos) (sAug i r te) := by
  obtain ⟨te', pe, he⟩ := he
  refine ⟨_, ps_aug hN hi hx pe (fun pins s σ H x y v u Q => hp pins s σ H x y v u Q) hf, fun W a H ρ σ D' E R h k => ?_⟩
  unfold sAug at h
  cases q : ρ[i]? with
  | none => rw [q] at h; exact h.elim
  | some od =>
    cases od with
    | none => rw [q] at h; exact h.elim
    | some d =>
      rw [q] at h
      obtain ⟨v, hv, r0⟩ := R.sl i d q
      refine ⟨v, hv, he W a H ρ σ _ _ R h fun w H1 W1 a1 d1 l1 R1 r1 q1 => hr W1 a1 H1 d d1 v w _ _ R1 (r0.le l1) r1 q1 fun z H2 W2 a2 d2 l2 R2 r2 q2 => ?_⟩
      exact k.nx _ H2 W2 a2 _ (l1.trans l2) ((R.next (l1.trans l2) R2).store r2) q2
/-- o.f = e -/
def sFld (cn i : Nat) (te to : TE') : TS' := fun D ρ a => te ρ a fun d a1 => to ρ a1 fun o a2 => match objV a2 cn o with | some (n, vs) => i ≤ vs.length ∧ D.nx ρ (setFld a2 n cn i vs d) | none => False
theorem RH.putF {K : PySem.W.Frag} {W : Wo} {a : A} {H : Hp} {n cn i : Nat} {f : Str} {vs : List D} {dx : Addr} {fv : List (Str × V)} {d : D} {v : V} (R : RH K ca W a H) (q : a[n]? = some (.obj cn vs)) (hk : fv.map (·.1) = (ca.nm cn).take vs.length)
    (r : RelDs K W vs (fv.map (·.2))) (rd : RelD K W d v) (hN : (ca.nm cn).Nodup) (hi : (ca.nm cn)[i]? = some f) (hle : i ≤ vs.length) :
    RH K ca W (setFld a n cn i vs d) (upd H (W.ι n) (.ins (ca.ad cn) dx (L2.putF f v fv))) := by
  have hl := r.length
  rw [List.length_map] at hl
  unfold setFld
  refine R.put q (by intro z; cases z) ⟨dx, _, upd_same, ?_⟩ (by intro z; cases z)
  by_cases h : i < vs.length
  · rw [if_pos h]
    obtain ⟨h1, h2⟩ := putF_at (fv := fv) (ns := (ca.nm cn).take vs.length) (i := i) (f := f) v (hN.sublist (List.take_sublist _ _)) hk (by rw [List.getElem?_take, if_pos h]; exact hi)
    rw [h1, h2, List.length_set]
    exact ⟨rfl, RelDs.set rd i r⟩
  · have e : i = vs.length := by omega
    have hlt : i < (ca.nm cn).length := (List.getElem?_eq_some_iff.mp hi).1
    rw [if_neg h]
    have hout : f ∉ fv.map (·.1) := by
      rw [hk, ← e]
      intro z
      obtain ⟨j, hj, ej⟩ := List.getElem_of_mem z
      rw [List.getElem_take] at ej
      have hj' : j < i := by rw [List.length_take] at hj; omega
      have e1 : (ca.nm cn)[j]? = some f := by rw [List.getElem?_eq_getElem (by omega), ej]
      have := nodup_ix hN e1 hi
      omega
    rw [putF_new v hout, List.map_append, List.map_append, hk, List.length_append, List.length_singleton]
    refine ⟨?_, r.append (.cons rd .nil)⟩
    rw [← e, List.take_add_one, hi]
    rfl
theorem ds_fld {cn i : Nat} {f : Str} (hc : Cls X.K (ca.ad cn)) (hn : NoAttr X.K (ca.ad cn) f) (hN : (ca.nm cn).Nodup) (hz : (ca.nm cn).length < 1000) (hi : (ca.nm cn)[i]? = some f) (ho : DE X ca W0 o to) (he : DE X ca W0 e te)
    (hs : swapsWith e (some (.Attribute o f pos')) pos.line X.env = pure false := by rfl) : DS X ca W0 (.Assign [.Attribute o f pos'] e pos) (sFld cn i te to) := by
  obtain ⟨te', pe, he⟩ := he
  obtain ⟨to', po, ho⟩ := ho
  refine ⟨_, ps_fld po pe hs, fun W a H ρ σ D' E R h k => he W a H ρ σ _ _ R h fun v H1 W1 a1 d l1 R1 r1 q1 => ho W1 a1 H1 ρ σ _ _ (R.next l1 R1) q1 fun x H2 W2 a2 o l2 R2 r2 q2 => ?_⟩
  cases hd : objV a2 cn o with
  | none => simp [hd] at q2
  | some t =>
    obtain ⟨n, vs⟩ := t
    simp only [hd] at q2
    obtain ⟨_, q, ev, dx, fv, hH, hk, r⟩ := R2.objV r2 hd
    have hl : fv.length < 1000 := by
      rw [← List.length_map (f := fun x : Str × V => x.1), hk, List.length_take]
      omega
    exact ⟨_, _, dx, fv, ev, hH, hc, hn, hl, k.nx σ _ W2 _ ρ (l1.trans l2) (R.next (l1.trans l2) (R2.putF q hk r (r1.le l2) hN hi q2.1)) q2.2⟩
/-- o.f op= e -/
def sAugFld (cn i : Nat) (r : D → D → A → DQ → Prop) (to te : TE') : TS' := fun D ρ a => to ρ a fun o a1 => match objV a1 cn o with
  | some (_, vs) => (match vs[i]? with
    | some x => te ρ a1 fun y a2 => r x y a2 fun z a3 => (match objV a3 cn o with | some (n, vs') => i < vs'.length ∧ D.nx ρ (setFld a3 n cn i vs' z) | none => False)
    | none => False)
  | none => False
theorem ds_augfld {op : Operator} {cn i : Nat} {f : Str} {tpos : Pos} {rr : R2} {r : D → D → A → DQ → Prop} (hc : Cls X.K (ca.ad cn)) (hn : NoAttr X.K (ca.ad cn) f) (hN : (ca.nm cn).Nodup) (hz : (ca.nm cn).length < 1000) (hi : (ca.nm cn)[i]? = some f) (ho : DE X ca W0 o to) (he : DE X ca W0 e te)
    (hp : OpR X (inplaceOp op) rr) (hr : Op2 X.K ca rr r) : DS X ca W0 (.AugAssign (.Attribute o f tpos) op e pos) (sAugFld cn i r to te) := by
  obtain ⟨te', pe, he⟩ := he
  obtain ⟨to', po, ho⟩ := ho
  refine ⟨_, ps_fldaug po pe (fun pins s σ H x y u v Q => hp pins s σ H x y u v Q), fun W a H ρ σ D' E R h k => ho W a H ρ σ _ _ R h fun x H1 W1 a1 o l1 R1 r1 q1 => ?_⟩
  cases hd : objV a1 cn o with
  | none => simp [hd] at q1
  | some t =>
    obtain ⟨n, vs⟩ := t
    simp only [hd] at q1
    cases hx : vs[i]? with
    | none => rw [hx] at q1; exact q1.elim
    | some d =>
      rw [hx] at q1
      obtain ⟨eo, q, ev, dx, fv, hH, hk, rr'⟩ := R1.objV r1 hd
      obtain ⟨u, hu, ru⟩ := rr'.get hx
      have hlt : i < vs.length := (List.getElem?_eq_some_iff.mp hx).1
      refine ⟨_, _, dx, fv, u, ev, hH, hc, hn, lookup_at (hN.sublist (List.take_sublist _ _)) hk (by rw [List.getElem?_take, if_pos hlt]; exact hi) hu, ?_⟩
      refine he W1 a1 H1 ρ σ _ _ (R.next l1 R1) q1 fun w H2 W2 a2 d2 l2 R2 r2 q2 => hr W2 a2 H2 d d2 u w _ _ R2 (ru.le l2) r2 q2 fun z H3 W3 a3 d3 l3 R3 r3 q3 => ?_
      cases hd3 : objV a3 cn o with
      | none => simp [hd3] at q3
      | some t3 =>
        obtain ⟨n3, vs3⟩ := t3
        simp only [hd3] at q3
        obtain ⟨eo3, q', ev3, dx3, fv3, hH3, hk3, rr3⟩ := R3.objV (r1.le (l2.trans l3)) hd3
        have en : n3 = n := by rw [eo] at eo3; cases eo3; rfl
        subst en
        have eι : W3.ι n3 = W1.ι n3 := by rw [ev] at ev3; exact (V.ref.inj ev3).symm
        have hl : fv3.length < 1000 := by
          rw [← List.length_map (f := fun x : Str × V => x.1), hk3, List.length_take]
          omega
        rw [eι] at hH3
        refine ⟨dx3, fv3, hH3, hl, ?_⟩
        have L := l1.trans (l2.trans l3)
        have RR := R3.putF (dx := dx3) q' hk3 rr3 r3 hN hi (Nat.le_of_lt q3.1)
        rw [eι] at RR
        exact k.nx σ _ W3 _ ρ L (R.next L RR) q3.2
end
end DW
set_option Elab.async false
set_option linter.all false
set_option maxRecDepth 100000
set_option maxHeartbeats 1000000
namespace DW
open PySem PySem.Spec PyProof.Rows L2
/-! ## What is walked -/
structure ItD where
  items : List D
  ok : A → Prop
/-- an iterator of the layer below yields these items, as long as it is ok -/
def Drv (K : PySem.W.Frag) (ca : Ci) (W : Wo) (J : It) (I : ItD) : Prop :=
  ∀ W' a' H', W.sub W' → RH K ca W' a' H' → I.ok a' →
    (∀ i d, I.items[i]? = some d → J.go i H' ∧ ∀ x H'', J.yld i H' x H'' → ∃ W'', W'.le W'' ∧ RH K ca W'' a' H'' ∧ RelD K W'' d x) ∧ J.stop I.items.length H'
abbrev TI' := En → A → (ItD → A → Prop) → Prop
def DI (X : Cx) (ca : Ci) (W0 : Bw) (tg iter : Expr) (t : TI') : Prop := ∃ ti, PI X tg iter ti ∧ ∀ W a H ρ σ (Q : ItD → A → Prop) (Q2 : It → Hp → Prop), RS X.K ca W0 W a H ρ σ → t ρ a Q →
  (∀ J H' W' a' I, W.le W' → RH X.K ca W' a' H' → Q I a' → Drv X.K ca W' J I → Q2 J H') → ti σ H Q2
/-- a list, a tuple -/
def iSeq (te : TE') : TI' := fun ρ a Q => te ρ a fun d a1 => match d with
  | .loc n => (match a1[n]? with | some (.lst ds) => Q ⟨ds, fun a' => a'[n]? = some (.lst ds)⟩ a1 | _ => False)
  | d => match vwS a1 d with | some ds => Q ⟨ds, fun _ => True⟩ a1 | none => False
def iTup (te : TE') : TI' := fun ρ a Q => te ρ a fun d a1 => match vwT d with | some ds => Q ⟨ds, fun _ => True⟩ a1 | none => False
/-- range -/
def rngD (lo : Int) (n : Nat) : List D := (List.range n).map fun i : Nat => D.int (lo + i)
def iRng1 (ta : TA') : TI' := fun ρ a Q => ta ρ a fun ds a1 => match ds with | [.int j] => -(2 ^ 62) ≤ j ∧ j < 2 ^ 62 ∧ Q ⟨rngD 0 j.toNat, fun _ => True⟩ a1 | _ => False
def iRng2 (ta : TA') : TI' := fun ρ a Q => ta ρ a fun ds a1 => match ds with | [.int i, .int j] => (-(2 ^ 62) ≤ i ∧ i < 2 ^ 62 ∧ -(2 ^ 62) ≤ j ∧ j < 2 ^ 62) ∧ Q ⟨rngD i (j - i).toNat, fun _ => True⟩ a1 | _ => False
section
variable {X : Cx} {ca : Ci} {W0 : Bw} {pos p : Pos} {tg e a b : Expr} {te : TE'} {ta : TA'}
theorem drv_list {K : PySem.W.Frag} {W : Wo} {q : Addr} {vs : List V} {ds : List D} {ok : A → Prop} (h : ∀ W' a' H', W.sub W' → RH K ca W' a' H' → ok a' → ∃ vs, SqL K H' q vs ∧ RelDs K W' ds vs) : Drv K ca W (Itl K q) ⟨ds, ok⟩ := by
  intro W' a' H' l R o
  obtain ⟨vs, g, r⟩ := h W' a' H' l R o
  refine ⟨fun i d hd => ?_, ⟨vs, g, by rw [← r.length]; exact Nat.le_refl _⟩⟩
  obtain ⟨v, hv, rv⟩ := r.get hd
  refine ⟨⟨vs, v, g, hv⟩, fun x H'' y => ?_⟩
  obtain ⟨e, y⟩ := y
  subst e
  have := y vs g
  rw [hv] at this
  cases this
  exact ⟨W', .refl, R, rv⟩
theorem di_seq (he : DE X ca W0 e te) : DI X ca W0 tg e (iSeq te) := by
  obtain ⟨te', pe, he⟩ := he
  refine ⟨_, pi_list pe, fun W a H ρ σ Q Q2 R h k => he W a H ρ σ _ _ R h fun v H1 W1 a1 d l1 R1 r1 q1 => ?_⟩
  have frozen : (match vwS a1 d with | some ds => Q ⟨ds, fun _ => True⟩ a1 | none => False) → (∀ n, d ≠ .loc n) → ∃ q, v = V.ref q ∧ (∃ xs, SqL X.K H1 q xs) ∧ Q2 (Itl X.K q) H1 := fun h hl => by
    cases e : vwS a1 d with
    | none => rw [e] at h; exact h.elim
    | some ds =>
      rw [e] at h
      obtain ⟨q, vs, ev, g, r⟩ := R1.vwS r1 e
      refine ⟨q, ev, ⟨vs, g⟩, k _ H1 W1 a1 _ l1 R1 h (drv_list (vs := vs) fun W' a' H' l R' _ => ?_)⟩
      have e' : vwS a' d = some ds := by
        cases d with
        | loc n => exact absurd rfl (hl n)
        | _ => exact e
      obtain ⟨q', vs', ev', g', r'⟩ := R'.vwS (RelD.mono l _ _ r1) e'
      rw [ev] at ev'
      cases ev'
      exact ⟨vs', g', r'⟩
  cases d with
  | loc n =>
    simp only at q1
    cases e : a1[n]? with
    | none => rw [e] at q1; exact q1.elim
    | some ao =>
      rw [e] at q1
      cases ao with
      | lst ds =>
        obtain ⟨q, vs, ev, g, r⟩ := R1.vwL (ds := ds) r1 (by simp [vwL, e])
        refine ⟨q, ev, ⟨vs, SqL.of g⟩, k _ H1 W1 a1 _ l1 R1 q1 (drv_list (vs := vs) fun W' a' H' l R' o => ?_)⟩
        obtain ⟨q', vs', ev', g', r'⟩ := R'.vwL (ds := ds) (RelD.mono l _ _ r1) (by have o : a'[n]? = _ := o; simp [vwL, o])
        rw [ev] at ev'
        cases ev'
        exact ⟨vs', SqL.of g', r'⟩
      | dic _ _ => exact q1.elim
      | obj _ _ => exact q1.elim
      | dead => exact q1.elim
  | non => exact frozen q1 (fun _ z => by cases z)
  | bl _ => exact frozen q1 (fun _ z => by cases z)
  | int _ => exact frozen q1 (fun _ z => by cases z)
  | str _ => exact frozen q1 (fun _ z => by cases z)
  | raw _ => exact frozen q1 (fun _ z => by cases z)
  | scr _ => exact frozen q1 (fun _ z => by cases z)
  | lst _ => exact frozen q1 (fun _ z => by cases z)
  | tup _ => exact frozen q1 (fun _ z => by cases z)
  | ktup _ => exact frozen q1 (fun _ z => by cases z)
  | dic _ _ _ => exact frozen q1 (fun _ z => by cases z)
theorem di_tup (he : DE X ca W0 e te) : DI X ca W0 tg e (iTup te) := by
  obtain ⟨te', pe, he⟩ := he
  refine ⟨_, pi_tup pe, fun W a H ρ σ Q Q2 R h k => he W a H ρ σ _ _ R h fun v H1 W1 a1 d l1 R1 r1 q1 => ?_⟩
  cases e : vwT d with
  | none => simp only [e] at q1
  | some ds =>
    simp only [e] at q1
    obtain ⟨q, vs, ev, g, r⟩ := R1.vwT r1 e
    refine ⟨q, ev, ⟨vs, g⟩, k _ H1 W1 a1 _ l1 R1 q1 fun W' a' H' l R' _ => ?_⟩
    obtain ⟨q', vs', ev', g', r'⟩ := R'.vwT (RelD.mono l _ _ r1) e
    rw [ev] at ev'
    cases ev'
    refine ⟨fun i d hd => ?_, ⟨vs', g', by rw [← r'.length]; exact Nat.le_refl _⟩⟩
    obtain ⟨v, hv, rv⟩ := r'.get hd
    refine ⟨⟨vs', v, g', hv⟩, fun x H'' y => ?_⟩
    obtain ⟨e, y⟩ := y
    subst e
    have := y vs' g'
    rw [hv] at this
    cases this
    exact ⟨W', .refl, R', rv⟩
theorem drv_rng {K : PySem.W.Frag} {W : Wo} {lo : Int} {n : Nat} {ok : A → Prop} : Drv K ca W (Itr lo n) ⟨rngD lo n, ok⟩ := by
  intro W' a' H' l R _
  refine ⟨fun i d hd => ?_, ?_⟩
  · have hi : i < n := by
      have := (List.getElem?_eq_some_iff.mp hd).1
      simpa [rngD] using this
    have : d = .int (lo + i) := by simpa [rngD, hi] using hd.symm
    subst this
    refine ⟨hi, fun x H'' y => ?_⟩
    obtain ⟨e, e2⟩ := y
    subst e
    exact ⟨W', .refl, R, e2⟩
  · show n ≤ (rngD lo n).length
    simp [rngD]
theorem di_rng1 (hg : Gl X "range") (hm : X.mg "range" = none) (ha : DA X ca W0 [a] ta) (hs : starEach [a] X.env = [(false, eval a X.env)] := by rfl) : DI X ca W0 tg (.Call (.Name "range" p) [a] [] pos) (iRng1 ta) := by
  obtain ⟨ta', pa, ha⟩ := ha
  refine ⟨_, pi_range1 hg hm pa hs, fun W a H ρ σ Q Q2 R h k => ha W a H ρ σ _ _ R h fun vs H1 W1 a1 ds l1 R1 r1 q1 => ?_⟩
  split at q1
  · rename_i j
    obtain ⟨x, e, r⟩ := rel1 r1
    subst e
    rw [show x = V.int j from r]
    exact ⟨j, rfl, q1.1, q1.2.1, k _ H1 W1 a1 _ l1 R1 q1.2.2 drv_rng⟩
  · exact q1.elim
theorem di_rng2 (hg : Gl X "range") (hm : X.mg "range" = none) (ha : DA X ca W0 [a, b] ta) (hs : starEach [a, b] X.env = [(false, eval a X.env), (false, eval b X.env)] := by rfl) (hs2 : starEach [b] X.env = [(false, eval b X.env)] := by rfl) : DI X ca W0 tg (.Call (.Name "range" p) [a, b] [] pos) (iRng2 ta) := by
  obtain ⟨ta', pa, ha⟩ := ha
  refine ⟨_, pi_range2 hg hm pa hs hs2, fun W a H ρ σ Q Q2 R h k => ha W a H ρ σ _ _ R h fun vs H1 W1 a1 ds l1 R1 r1 q1 => ?_⟩
  split at q1
  · rename_i i j
    obtain ⟨x, y, e, r, r'⟩ := rel2 r1
    subst e
    rw [show x = V.int i from r, show y = V.int j from r']
    exact ⟨i, j, rfl, q1.1, k _ H1 W1 a1 _ l1 R1 q1.2 drv_rng⟩
  · exact q1.elim
end
/-! ## for, while -/
def forW (ok : A → Prop) (g : Tg) (tb : TS') (D' : Dn) : List D → En → A → Prop
  | [], ρ, a => ok a ∧ D'.nx ρ a
  | d :: ds, ρ, a => ok a ∧ match g.put d ρ with | some ρ' => tb { D' with nx := forW ok g tb D' ds, ct := forW ok g tb D' ds, bk := D'.nx } ρ' a | none => False
def sFor (ti : TI') (g : Tg) (tb : TS') : TS' := fun D ρ a => ti ρ a fun I a1 => forW I.ok g tb D I.items ρ a1
def sWhile (c : TT') (tb : TS') : TS' := fun D ρ a => ∃ W : Nat → En → A → Prop, (∃ m, W m ρ a) ∧ ∀ m ρ a, W m ρ a →
  c ρ a fun b a1 => if b = true then ∃ N : En → A → Prop, (∀ ρ' a', N ρ' a' → ∃ m', m' < m ∧ W m' ρ' a') ∧ tb { D with nx := N, ct := N, bk := D.nx } ρ a1 else D.nx ρ a1
section
variable {X : Cx} {ca : Ci} {W0 : Bw} {pos : Pos} {tg iter c : Expr} {body : List Stmt} {ti : TI'} {tc : TT'} {g : Tg} {tb : TS'}
theorem ds_for (hp : PassesOwn (model X.prog X.w) X.A X.env X.xe) (hc : X.calm = true) (hi : DI X ca W0 tg iter ti) (hg : DG X tg g) (hb : DSs X ca W0 body tb) (hs : ∀ x, foldedSetIterable iter X.env x = pure x := by intro _; rfl) :
    DS X ca W0 (.For tg iter body [] pos) (sFor ti g tb) := by
  obtain ⟨ti', pi, hi⟩ := hi
  obtain ⟨tb', pb, hb⟩ := hb
  refine ⟨_, ps_for hp hc pi hg pb hs, fun W a H ρ σ D' E R h k => hi W a H ρ σ _ _ R h fun J H1 W1 a1 I l1 R1 q1 drv => ?_⟩
  refine ⟨fun i m σ' H' => m = I.items.length - i ∧ i ≤ I.items.length ∧ ∃ W' a' ρ', W1.le W' ∧ RS X.K ca W0 W' a' H' ρ' σ' ∧ forW I.ok g tb D' (I.items.drop i) ρ' a', ⟨I.items.length, by simp, Nat.zero_le _, W1, a1, ρ, .refl, R.next l1 R1, q1⟩, ?_⟩
  rintro i m σ' H' ⟨rfl, hi, W', a', ρ', l', R', q⟩
  by_cases hlt : i < I.items.length
  · refine .inr ?_
    rw [List.drop_eq_getElem_cons hlt] at q
    obtain ⟨hok, q⟩ := q
    obtain ⟨hgo, _⟩ := drv W' a' H' l'.tosub R'.rh hok
    obtain ⟨go, yld⟩ := hgo i _ (List.getElem?_eq_getElem hlt)
    refine ⟨go, fun σ'' H'' => ∃ W'' a'' ρ'', W1.le W'' ∧ RS X.K ca W0 W'' a'' H'' ρ'' σ'' ∧ forW I.ok g tb D' (I.items.drop (i + 1)) ρ'' a'', fun σ'' H'' z => ⟨I.items.length - (i + 1), by omega, rfl, hlt, z⟩, fun x H'' y => ?_⟩
    obtain ⟨W2, l2, R2, r2⟩ := yld x H'' y
    cases e : g.put I.items[i] ρ' with
    | none => rw [e] at q; exact q.elim
    | some ρ2 =>
      rw [e] at q
      refine Tg.ok g (R'.next l2 R2) r2 e fun σ3 R3 _ => hb W2 a' H'' ρ2 σ3 _ _ R3 q ⟨?_, k.rt.le (l1.trans (l'.trans l2)), k.nx.le (l1.trans (l'.trans l2)), ?_⟩
      · exact fun σ4 H4 W4 a4 ρ4 l4 R4 q4 => ⟨W4, a4, ρ4, l'.trans (l2.trans l4), R4, q4⟩
      · exact fun σ4 H4 W4 a4 ρ4 l4 R4 q4 => ⟨W4, a4, ρ4, l'.trans (l2.trans l4), R4, q4⟩
  · have e : i = I.items.length := by omega
    subst e
    rw [List.drop_length] at q
    obtain ⟨_, hst⟩ := drv W' a' H' l'.tosub R'.rh q.1
    exact .inl ⟨hst, k.nx σ' H' W' a' ρ' (l1.trans l') R' q.2⟩
theorem ds_while (hp : PassesOwn (model X.prog X.w) X.A X.env X.xe) (hc : DT X ca W0 c tc) (hb : DSs X ca W0 body tb) : DS X ca W0 (.While c body [] pos) (sWhile tc tb) := by
  obtain ⟨tc', pc, hc⟩ := hc
  obtain ⟨tb', pb, hb⟩ := hb
  refine ⟨_, ps_while hp pc pb, fun W a H ρ σ D' E R h k => ?_⟩
  obtain ⟨M, ⟨m0, h0⟩, turn⟩ := h
  refine ⟨fun m σ' H' => ∃ W' a' ρ', W.le W' ∧ RS X.K ca W0 W' a' H' ρ' σ' ∧ M m ρ' a', ⟨m0, W, a, ρ, .refl, R, h0⟩, ?_⟩
  rintro m σ' H' ⟨W', a', ρ', l', R', hm⟩
  refine hc W' a' H' ρ' σ' _ _ R' (turn m ρ' a' hm) fun b H1 W1 a1 l1 R1 q1 => ?_
  cases b with
  | false => rw [if_neg Bool.false_ne_true] at q1 ⊢; exact k.nx σ' H1 W1 a1 ρ' (l'.trans l1) (R'.next l1 R1) q1
  | true =>
    rw [if_pos rfl] at q1 ⊢
    obtain ⟨N, hN, q1⟩ := q1
    refine ⟨fun σ'' H'' => ∃ W'' a'' ρ'', W.le W'' ∧ RS X.K ca W0 W'' a'' H'' ρ'' σ'' ∧ N ρ'' a'', fun σ'' H'' ⟨W'', a'', ρ'', l'', R'', n⟩ => ?_, hb W1 a1 H1 ρ' σ' _ _ (R'.next l1 R1) q1 ⟨?_, k.rt.le (l'.trans l1), k.nx.le (l'.trans l1), ?_⟩⟩
    · obtain ⟨m', hlt, w⟩ := hN ρ'' a'' n
      exact ⟨m', hlt, W'', a'', ρ'', l'', R'', w⟩
    · exact fun σ4 H4 W4 a4 ρ4 l4 R4 q4 => ⟨W4, a4, ρ4, l'.trans (l1.trans l4), R4, q4⟩
    · exact fun σ4 H4 W4 a4 ρ4 l4 R4 q4 => ⟨W4, a4, ρ4, l'.trans (l1.trans l4), R4, q4⟩
end
/-! ## Comprehensions -/
def wipeD (ρ : En) : List Nat → En
  | [] => ρ
  | v :: vs => (wipeD ρ vs).set v none
def lcW (ok : A → Prop) (g : Tg) (tt : TT') (te : TE') (ρ : En) (Q : List D → A → Prop) : List D → List D → A → Prop
  | [], acc, a => ok a ∧ Q acc a
  | d :: ds, acc, a => ok a ∧ match g.put d ρ with
    | some ρ' => tt ρ' a fun b a1 => if b = true then te ρ' a1 fun r a2 => Fits (acc.length + 1) ∧ lcW ok g tt te ρ Q ds (acc ++ [r]) a2 else lcW ok g tt te ρ Q ds acc a1
    | none => False
def wLc (m : Bool) (ti : TI') (g : Tg) (tt : TT') (te : TE') (vs : List Nat) : TE' := fun ρ a Q => ti ρ a fun I a1 => lcW I.ok g tt te (wipeD ρ vs) (fun acc a2 => Fits acc.length ∧ outL m acc a2 Q) I.items [] a1
def DTs (X : Cx) (ca : Ci) (W0 : Bw) (es : List Expr) (t : TT') : Prop := ∃ te, PTs X es te ∧ ∀ W a H ρ σ Q Q2, RS X.K ca W0 W a H ρ σ → t ρ a Q → KontT X.K ca W Q Q2 → te σ H Q2
def wYes : TT' := fun _ a Q => Q true a
section
variable {X : Cx} {ca : Ci} {W0 : Bw} {e : Expr} {t : TT'}
theorem dts_nil : DTs X ca W0 [] wYes := ⟨_, pts_nil, fun W a H ρ σ Q Q2 R h k => k true H W a .refl R.rh h⟩
theorem dts_one (h : DT X ca W0 e t) : DTs X ca W0 [e] t := by
  obtain ⟨te, pe, h⟩ := h
  exact ⟨_, pts_one pe, h⟩
end
theorem wipe_rel {K : PySem.W.Frag} {ca : Ci} {W0 : Bw} {W : Wo} {a : A} {H : Hp} {ρ : En} {σ : L2.St} (R : RS K ca W0 W a H ρ σ) : ∀ vs : List Nat, RS K ca W0 W a H (wipeD ρ vs) (wipe σ vs)
  | [] => R
  | v :: vs => by
    have R1 := wipe_rel R vs
    refine ⟨R1.b, R1.rh, fun i d e => ?_, by show ((wipeD ρ vs).set v none).length = ((wipe σ vs).set v none).length; rw [List.length_set, List.length_set]; exact R1.ln⟩
    have e : ((wipeD ρ vs).set v none)[i]? = some (some d) := e
    show ∃ u, ((wipe σ vs).set v none)[i]? = some (some u) ∧ _
    by_cases hi : i = v
    · subst hi
      by_cases hl : i < (wipeD ρ vs).length
      · rw [List.getElem?_set_self hl] at e; cases e
      · rw [List.getElem?_eq_none (by rw [List.length_set]; omega)] at e; cases e
    · rw [List.getElem?_set_ne (fun z => hi z.symm)] at e ⊢
      exact R1.sl i d e
theorem Wo.subz {W : Wo} {z : Hp} : W.sub { W with Z := z } := ⟨fun _ _ h => h, Nat.le_refl _, fun _ _ => rfl⟩
/-- the hidden list of a comprehension -/
theorem RH.hide {K : PySem.W.Frag} {ca : Ci} {W : Wo} {a : A} {H : Hp} (R : RH K ca W a H) {p : Addr} (hp : H p = none) (o : HO) : RH K ca { W with Z := upd W.Z p o } a (upd H p o) := by
  have R1 := R.newU hp o
  refine ⟨R1.len, R1.sub, fun n ao q => (R1.obj n ao q).le Wo.subz rfl, R1.ng, R1.th, R1.inj, fun b u h => ?_⟩
  have h : upd W.Z p o b = some u := h
  by_cases e : b = p
  · subst e
    rw [upd_same] at h ⊢
    refine ⟨h, ?_, fun n hn z => ?_⟩
    · cases q : W.G b with
      | none => rfl
      | some u => rw [R.sub _ _ q] at hp; cases hp
    · exact R.th n hn (by rw [z]; exact hp)
  · rw [upd_ne e] at h
    exact R1.zs b u h
theorem RH.rehide {K : PySem.W.Frag} {ca : Ci} {W : Wo} {a : A} {H : Hp} (R : RH K ca W a H) {p : Addr} {o : HO} (hp : W.Z p = some o) (o' : HO) : RH K ca { W with Z := upd W.Z p o' } a (upd H p o') := by
  obtain ⟨h1, h2, h3⟩ := R.zs p o hp
  refine ⟨R.len, fun b u q => ?_, fun n ao q => (R.obj n ao q).le Wo.subz (upd_ne (h3 n (R.lt q))), R.ng, fun n hn => by rw [upd_ne (h3 n hn)]; exact R.th n hn, R.inj, fun b u h => ?_⟩
  · have : b ≠ p := fun e => by rw [e, h2] at q; cases q
    rw [upd_ne this]; exact R.sub _ _ q
  · have h : upd W.Z p o' b = some u := h
    by_cases e : b = p
    · subst e
      rw [upd_same] at h ⊢
      exact ⟨h, h2, h3⟩
    · rw [upd_ne e] at h ⊢
      exact R.zs b u h
/-- .. becomes a value, or a loc -/
theorem unhide {K : PySem.W.Frag} {ca : Ci} {W W1 W2 : Wo} {a : A} {H : Hp} {p : Addr} {ds : List D} {vs : List V} {m : Bool} {Q : DQ} {Q2 : VK} (l : W.le W1) (l2 : W1.sub W2) (R : RH K ca W2 a H) (hp : W2.Z p = some (.lst vs))
    (hz : ∀ b u, W1.Z b = some u → W2.Z b = some u ∧ b ≠ p) (r : RelDs K W2 ds vs) (hf : Fits ds.length) (q : outL m ds a Q) (k : Kont K ca W Q Q2) : Q2 (.ref p) H := by
  obtain ⟨h1, h2, h3⟩ := R.zs p _ hp
  cases m with
  | false =>
    have l3 : W2.sub { W2 with G := upd W2.G p (.lst vs), Z := W1.Z } := ⟨fun b u z => by
      show upd W2.G p _ b = some u
      rw [upd_ne (fun e => by rw [e, h2] at z; cases z)]; exact z, Nat.le_refl _, fun _ _ => rfl⟩
    have R3 : RH K ca { W2 with G := upd W2.G p (.lst vs), Z := W1.Z } a H := ⟨R.len, fun b u z => by
      have z : upd W2.G p (.lst vs) b = some u := z
      by_cases e : b = p
      · subst e; rw [upd_same] at z; rw [← z]; exact h1
      · rw [upd_ne e] at z; exact R.sub b u z, fun n ao z => (R.obj n ao z).le l3 rfl, fun n ao z d => by
      show upd W2.G p _ (W2.ι n) = none
      rw [upd_ne (h3 n (R.lt z))]; exact R.ng n ao z d, R.th, R.inj, fun b u z => by
      obtain ⟨g1, g2⟩ := hz b u z
      obtain ⟨g3, g4, g5⟩ := R.zs b u g1
      exact ⟨g3, by show upd W2.G p _ b = none; rw [upd_ne g2]; exact g4, g5⟩⟩
    exact k _ H _ a (.lst ds) (l.trans ⟨l2.trans l3, rfl⟩) R3 ⟨p, vs, rfl, upd_same, r.mono' l3, by rw [← r.length]; exact hf⟩ q
  | true =>
    have l3 : W2.sub { W2.add p with Z := W1.Z } := ⟨(W2.add_le p).G, (W2.add_le p).N, (W2.add_le p).ι⟩
    have iA : ∀ n, n < W2.N → (W2.add p).ι n = W2.ι n := (W2.add_le p).ι
    have cases_ : ∀ n ao', (a ++ [AO.lst ds])[n]? = some ao' → (n < W2.N ∧ a[n]? = some ao') ∨ (n = W2.N ∧ ao' = .lst ds) := fun n ao' q => by
      by_cases hn : n < a.length
      · rw [List.getElem?_append_left hn] at q
        exact .inl ⟨by rw [R.len]; exact hn, q⟩
      · rw [List.getElem?_append_right (by omega)] at q
        have : n - a.length = 0 := by
          have := (List.getElem?_eq_some_iff.mp q).1
          simp at this; omega
        rw [this] at q
        simp at q
        exact .inr ⟨by rw [R.len]; omega, q.symm⟩
    have R3 : RH K ca { W2.add p with Z := W1.Z } (a ++ [.lst ds]) H := by
      refine ⟨by show W2.N + 1 = _; rw [R.len, List.length_append, List.length_singleton], R.sub, fun n ao z => ?_, fun n ao z d => ?_, fun n hn => ?_, fun i j hi hj e => ?_, fun b u z => ?_⟩
      · rcases cases_ n ao z with ⟨hn, z⟩ | ⟨hn, e⟩
        · show RelAO K ca _ H ((W2.add p).ι n) ao
          rw [iA n hn]; exact (R.obj n ao z).le l3 rfl
        · subst hn; subst e
          show RelAO K ca _ H ((W2.add p).ι W2.N) _
          rw [Wo.add_ι]; exact ⟨vs, h1, r.mono' l3⟩
      · rcases cases_ n ao z with ⟨hn, z⟩ | ⟨hn, e⟩
        · show W2.G ((W2.add p).ι n) = none
          rw [iA n hn]; exact R.ng n ao z d
        · subst hn
          show W2.G ((W2.add p).ι W2.N) = none
          rw [Wo.add_ι]; exact h2
      · show H ((W2.add p).ι n) ≠ none
        by_cases hl : n < W2.N
        · rw [iA n hl]; exact R.th n hl
        · have hn' : n < W2.N + 1 := hn
          have : n = W2.N := by omega
          subst this
          rw [Wo.add_ι, h1]; intro z; cases z
      · have hi' : i < W2.N + 1 := hi
        have hj' : j < W2.N + 1 := hj
        have e : (W2.add p).ι i = (W2.add p).ι j := e
        by_cases g1 : i < W2.N <;> by_cases g2 : j < W2.N
        · rw [iA i g1, iA j g2] at e; exact R.inj i j g1 g2 e
        · have : j = W2.N := by omega
          subst this
          rw [iA i g1, Wo.add_ι] at e; exact absurd e (h3 i g1)
        · have : i = W2.N := by omega
          subst this
          rw [iA j g2, Wo.add_ι] at e; exact absurd e.symm (h3 j g2)
        · omega
      · obtain ⟨g1, g2⟩ := hz b u z
        obtain ⟨g3, g4, g5⟩ := R.zs b u g1
        refine ⟨g3, g4, fun n hn => ?_⟩
        show (W2.add p).ι n ≠ b
        by_cases hl : n < W2.N
        · rw [iA n hl]; exact g5 n hl
        · have hn' : n < W2.N + 1 := hn
          have : n = W2.N := by omega
          subst this
          rw [Wo.add_ι]; exact fun e => g2 e.symm
    exact k _ H _ _ (.loc a.length) (l.trans ⟨l2.trans l3, rfl⟩) R3 ⟨by rw [← R.len]; exact Nat.lt_succ_self _, by rw [← R.len]; exact congrArg V.ref (Wo.add_ι W2 p).symm⟩ q
end DW
set_option Elab.async false
set_option linter.all false
set_option maxRecDepth 100000
set_option maxHeartbeats 1000000
namespace DW
open PySem PySem.Spec PyProof.Rows L2
/-! ## Comprehensions: the rule -/
theorem wipeD_len (ρ : En) : ∀ vs : List Nat, (wipeD ρ vs).length = ρ.length
  | [] => rfl
  | v :: vs => by show ((wipeD ρ vs).set v none).length = _; rw [List.length_set, wipeD_len ρ vs]
theorem wipe_sub {σ : L2.St} {vs : List Nat} : ∀ us : List Nat, (∀ i ∈ us, i ∈ vs) → wipe (wipe σ us) vs = wipe σ vs
  | [], _ => rfl
  | u :: us, h => by
    show wipe ((wipe σ us).set u none) vs = _
    rw [wipe_set (h u (by simp)), wipe_sub us fun i hi => h i (by simp [hi])]
/-- where a comprehension's block runs -/
structure BlkAt where
  s : Shared
  H : Hp
  C : Addr
  cl : List (Str × Addr)
  fp : List Addr
abbrev blkX (X : Cx) (scope : Scope) (b : BlkAt) : Cx := X.blk b.s b.H scope (compEnvC scope b.cl b.C X.env) b.fp
section
variable {X : Cx} {ca : Ci} {W0 : Bw} {pos spos py : Pos} {elt tg iter : Expr} {ifs : List Expr} {scope : Scope} {own : List (Str × Nat)} {ti : TI'} {g : Tg} {tt : TT'} {te : TE'} {m : Bool}
/-- what pe_lc and ps_setLc ask, and how the reading comes out of it -/
theorem lc_all (hi : DI X ca W0 tg iter ti) (hg : ∀ b, DG (blkX X scope b) tg g) (hv : ∀ i ∈ g.sl, i ∈ own.map (·.2)) (ht : ∀ b, DTs (blkX X scope b) ca Bw.any ifs tt) (he : ∀ b, DE (blkX X scope b) ca Bw.any elt te) :
    ∃ (wi : TI) (ttv : TT) (tev : TE), PI X tg iter wi ∧ (∀ b, PTs (blkX X scope b) ifs ttv) ∧ (∀ b, PE (blkX X scope b) elt tev) ∧
      ∀ W a H ρ σ (Q : DQ) (Q2 : VK), RS X.K ca W0 W a H ρ σ → wLc m ti g tt te (own.map (·.2)) ρ a Q → Kont X.K ca W Q Q2 → tLc wi (g.hs X.K) ttv tev (own.map (·.2)) σ H Q2 := by
  obtain ⟨wi, pi, hi⟩ := hi
  refine ⟨wi, fun σ H Q => ∀ b, Classical.choose (ht b) σ H Q, fun σ H Q => ∀ b, Classical.choose (he b) σ H Q, pi, fun b => ⟨fun pins s σ H Q I h => (Classical.choose_spec (ht b)).1.run pins s σ H Q I (h b)⟩, fun b => ⟨fun pins s σ H Q I h => (Classical.choose_spec (he b)).1.run pins s σ H Q I (h b)⟩, ?_⟩
  intro W a H ρ σ Q Q2 R h k
  refine hi W a H ρ σ _ _ R h fun J H1 W1 a1 I l1 R1 q1 drv => fun Da hD => ?_
  -- the state between two turns
  refine ⟨fun i m' H' => m' = I.items.length - i ∧ i ≤ I.items.length ∧ ∃ W2 a2 acc vs, W1.sub W2 ∧ W2.Z = upd W1.Z Da (.lst vs) ∧ RS X.K ca Bw.any W2 a2 H' (wipeD ρ (own.map (·.2))) (wipe σ (own.map (·.2))) ∧ RelDs X.K W2 acc vs ∧
      lcW I.ok g tt te (wipeD ρ (own.map (·.2))) (fun acc a2 => Fits acc.length ∧ outL m acc a2 Q) (I.items.drop i) acc a2, ⟨I.items.length, by simp, Nat.zero_le _, { W1 with Z := upd W1.Z Da (.lst []) }, a1, [], [], Wo.subz, rfl, ?_, rfl, q1⟩, ?_⟩
  · have Rw := wipe_rel (R.next l1 R1) (own.map (·.2))
    exact ⟨True.intro, R1.hide hD _, fun i d e => let ⟨v, h1, h2⟩ := Rw.sl i d e; ⟨v, h1, RelD.mono Wo.subz _ _ h2⟩, Rw.ln⟩
  · rintro i m' H' ⟨rfl, hi, W2, a2, acc, vs, l2, hZ, R2, ra, q⟩
    have hDa : W2.Z Da = some (.lst vs) := by rw [hZ, upd_same]
    by_cases hlt : i < I.items.length
    · refine .inr ?_
      rw [List.drop_eq_getElem_cons hlt] at q
      obtain ⟨hok, q⟩ := q
      obtain ⟨hgo, _⟩ := drv W2 a2 H' l2 R2.rh hok
      obtain ⟨go, yld⟩ := hgo i _ (List.getElem?_eq_getElem hlt)
      refine ⟨go, fun H'' => ∃ W3 a3 acc vs, W1.sub W3 ∧ W3.Z = upd W1.Z Da (.lst vs) ∧ RS X.K ca Bw.any W3 a3 H'' (wipeD ρ (own.map (·.2))) (wipe σ (own.map (·.2))) ∧ RelDs X.K W3 acc vs ∧
        lcW I.ok g tt te (wipeD ρ (own.map (·.2))) (fun acc a2 => Fits acc.length ∧ outL m acc a2 Q) (I.items.drop (i + 1)) acc a3, fun H'' z => ⟨I.items.length - (i + 1), by omega, rfl, hlt, z⟩, fun x H'' y => ?_⟩
      obtain ⟨W3, l3, R3, r3⟩ := yld x H'' y
      cases e : g.put I.items[i] (wipeD ρ (own.map (·.2))) with
      | none => rw [e] at q; exact q.elim
      | some ρ4 =>
        rw [e] at q
        have Rn := R2.next l3 R3
        refine Tg.ok g Rn r3 e fun σ4 R4 w4 => ⟨?_, fun b => ?_⟩
        · rw [w4 (own.map (·.2)) hv, wipe_sub _ fun _ h => h]
        · refine (Classical.choose_spec (ht b)).2 W3 a2 H'' ρ4 σ4 _ _ R4 q fun bb H5 W5 a5 l5 R5 q5 => ?_
          cases bb with
          | false =>
            rw [if_neg Bool.false_ne_true] at q5 ⊢
            exact ⟨W5, a5, acc, vs, l2.trans (l3.tosub.trans l5.tosub), by rw [l5.Z, l3.Z, hZ], Rn.next l5 R5, (ra.le l3).le l5, q5⟩
          | true =>
            rw [if_pos rfl] at q5 ⊢
            refine fun b => (Classical.choose_spec (he b)).2 W5 a5 H5 ρ4 σ4 _ _ (R4.next l5 R5) q5 fun v H6 W6 a6 d l6 R6 r6 q6 => ?_
            have hZ6 : W6.Z = upd W1.Z Da (.lst vs) := by rw [l6.Z, l5.Z, l3.Z, hZ]
            have h6 : W6.Z Da = some (.lst vs) := by rw [hZ6, upd_same]
            obtain ⟨z1, _, _⟩ := R6.zs Da _ h6
            have ra6 : RelDs X.K W6 acc vs := ((ra.le l3).le l5).le l6
            have R7 := R6.rehide h6 (.lst (vs ++ [v]))
            have Rn6 := (Rn.next l5 R5).next l6 R6
            refine ⟨vs, z1, by rw [← ra.length]; exact q6.1.le, { W6 with Z := upd W6.Z Da (.lst (vs ++ [v])) }, a6, acc ++ [d], vs ++ [v], (l2.trans (l3.tosub.trans (l5.tosub.trans l6.tosub))).trans Wo.subz, ?_, ?_, ?_, q6.2⟩
            · show upd W6.Z Da _ = _
              rw [hZ6]
              funext bq
              by_cases e : bq = Da
              · subst e; rw [upd_same, upd_same]
              · rw [upd_ne e, upd_ne e, upd_ne e]
            · exact ⟨True.intro, R7, fun i d e => let ⟨v, h1, h2⟩ := Rn6.sl i d e; ⟨v, h1, RelD.mono Wo.subz _ _ h2⟩, Rn6.ln⟩
            · exact (ra6.append (.cons r6 .nil)).mono' Wo.subz
    · have e : i = I.items.length := by omega
      subst e
      rw [List.drop_length] at q
      obtain ⟨_, hst⟩ := drv W2 a2 H' l2 R2.rh q.1
      refine .inl ⟨hst, unhide (m := m) l1 l2 R2.rh hDa (fun b u z => ?_) ra q.2.1 q.2.2 k⟩
      have : b ≠ Da := fun e => by
        subst e
        obtain ⟨z1, _, _⟩ := R1.zs _ _ z
        rw [hD] at z1; cases z1
      exact ⟨by rw [hZ, upd_ne this]; exact z, this⟩
theorem de_lc (hc : X.calm = true) (hN : X.N.Nodup) (hi : DI X ca W0 tg iter ti) (ok : BlkOk X.N X.env.scope scope own) (hg : ∀ b, DG (blkX X scope b) tg g) (hv : ∀ i ∈ g.sl, i ∈ own.map (·.2)) (ht : ∀ b, DTs (blkX X scope b) ca Bw.any ifs tt) (he : ∀ b, DE (blkX X scope b) ca Bw.any elt te)
    (hs : ∀ x, foldedSetIterable iter X.env x = pure x := by intro _; rfl) : DE X ca W0 (.ListComp elt [⟨tg, iter, ifs, 0⟩] scope pos) (wLc m ti g tt te (own.map (·.2))) := by
  obtain ⟨wi, ttv, tev, pi, pt, pe, h⟩ := lc_all (m := m) hi hg hv ht he
  exact ⟨_, pe_lc (g := g.hs X.K) hc hN pi ok (fun s H C cl fp => hg ⟨s, H, C, cl, fp⟩) (fun s H C cl fp => pt ⟨s, H, C, cl, fp⟩) (fun s H C cl fp => pe ⟨s, H, C, cl, fp⟩) hs, h⟩
theorem ds_setLc {i : Nat} {y : Str} (hc : X.calm = true) (hN : X.N.Nodup) (hy : X.N[i]? = some y) (hyl : X.env.scope.names.lookup y = some .local) (hsw : swapsWith (.ListComp elt [⟨tg, iter, ifs, 0⟩] scope pos) (some (.Name y py)) spos.line X.env = pure true)
    (hi : DI X ca W0 tg iter ti) (ok : BlkOk X.N X.env.scope scope own) (hg : ∀ b, DG (blkX X scope b) tg g) (hv : ∀ i ∈ g.sl, i ∈ own.map (·.2)) (ht : ∀ b, DTs (blkX X scope b) ca Bw.any ifs tt) (he : ∀ b, DE (blkX X scope b) ca Bw.any elt te)
    (hs : ∀ x, foldedSetIterable iter X.env x = pure x := by intro _; rfl) : DS X ca W0 (.Assign [.Name y py] (.ListComp elt [⟨tg, iter, ifs, 0⟩] scope pos) spos) (sSet i (wLc m ti g tt te (own.map (·.2)))) := by
  obtain ⟨wi, ttv, tev, pi, pt, pe, h⟩ := lc_all (m := m) hi hg hv ht he
  refine ⟨_, ps_setLc (g := g.hs X.K) hc hN hy hyl hsw pi ok (fun s H C cl fp => hg ⟨s, H, C, cl, fp⟩) (fun s H C cl fp => pt ⟨s, H, C, cl, fp⟩) (fun s H C cl fp => pe ⟨s, H, C, cl, fp⟩) hs, fun W a H ρ σ D' E R q k => ?_⟩
  exact h W a H ρ σ _ _ R q fun v H1 W1 a1 d l1 R1 r1 q1 => k.nx _ H1 W1 a1 _ l1 ((R.next l1 R1).store r1) q1
end

/-! ## Defs -/
mutual
def D.bd (n : Nat) : D → Prop
  | .loc m => m < n
  | .lst ds => D.bds n ds
  | .tup ds => D.bds n ds
  | .ktup ds => D.bds n ds
  | .dic _ _ vs => D.bds n vs
  | _ => True
def D.bds (n : Nat) : List D → Prop
  | [] => True
  | d :: ds => D.bd n d ∧ D.bds n ds
end
def AO.bd (n : Nat) : AO → Prop
  | .lst ds => D.bds n ds
  | .dic _ kvs => D.bds n (kvs.map (·.2))
  | .obj _ vs => D.bds n vs
  | .dead => True
section
variable {K : PySem.W.Frag} {ca : Ci} {W : Wo} {n : Nat}
def Wo.cut (W : Wo) (n : Nat) : Wo := { W with N := n }
mutual
theorem RelD.trim : ∀ (d : D) (v : V), RelD K W d v → D.bd n d → RelD K (W.cut n) d v
  | .non, _, h, _ => h
  | .bl _, _, h, _ => h
  | .int _, _, h, _ => h
  | .str _, _, h, _ => h
  | .raw _, _, h, _ => h
  | .scr _, _, h, _ => h
  | .loc _, _, h, b => ⟨b, h.2⟩
  | .lst ds, v, h, b => by obtain ⟨a, vs, e, g, r, z⟩ := h; exact ⟨a, vs, e, g, RelDs.trim ds vs r b, z⟩
  | .tup ds, v, h, b => by obtain ⟨a, vs, e, g, r, z⟩ := h; exact ⟨a, vs, e, g, RelDs.trim ds vs r b, z⟩
  | .ktup ds, v, h, b => by obtain ⟨a, vs, e, g, r⟩ := h; exact ⟨a, vs, e, g, RelDs.trim ds vs r b⟩
  | .dic t ks vs, v, h, b => by
    obtain ⟨a, e, z, h⟩ := h
    rcases h with ⟨ht, kv, g, e1, r⟩ | ⟨ht, kv, g, e1, r⟩
    · exact ⟨a, e, z, .inl ⟨ht, kv, g, e1, RelDs.trim vs _ r b⟩⟩
    · exact ⟨a, e, z, .inr ⟨ht, kv, g, e1, RelDs.trim vs _ r b⟩⟩
theorem RelDs.trim : ∀ (ds : List D) (vs : List V), RelDs K W ds vs → D.bds n ds → RelDs K (W.cut n) ds vs
  | [], _, h, _ => h
  | d :: ds, vs, h, b => by obtain ⟨v, ws, e, r, rs⟩ := h; exact ⟨v, ws, e, RelD.trim d v r b.1, RelDs.trim ds ws rs b.2⟩
end
mutual
theorem RelD.bd (h : W.N ≤ n) : ∀ (d : D) (v : V), RelD K W d v → D.bd n d
  | .non, _, _ => True.intro
  | .bl _, _, _ => True.intro
  | .int _, _, _ => True.intro
  | .str _, _, _ => True.intro
  | .raw _, _, _ => True.intro
  | .scr _, _, _ => True.intro
  | .loc m, _, r => Nat.lt_of_lt_of_le r.1 h
  | .lst ds, v, r => by obtain ⟨a, vs, e, g, r, z⟩ := r; exact RelDs.bd h ds vs r
  | .tup ds, v, r => by obtain ⟨a, vs, e, g, r, z⟩ := r; exact RelDs.bd h ds vs r
  | .ktup ds, v, r => by obtain ⟨a, vs, e, g, r⟩ := r; exact RelDs.bd h ds vs r
  | .dic t ks vs, v, r => by
    obtain ⟨a, e, z, r⟩ := r
    rcases r with ⟨ht, kv, g, e1, r⟩ | ⟨ht, kv, g, e1, r⟩
    · exact RelDs.bd h vs _ r
    · exact RelDs.bd h vs _ r
theorem RelDs.bd (h : W.N ≤ n) : ∀ (ds : List D) (vs : List V), RelDs K W ds vs → D.bds n ds
  | [], _, _ => True.intro
  | d :: ds, vs, r => by obtain ⟨v, ws, e, r, rs⟩ := r; exact ⟨RelD.bd h d v r, RelDs.bd h ds ws rs⟩
end
theorem RelAO.bd (h : W.N ≤ n) {H : Hp} {p : Addr} : ∀ {ao : AO}, RelAO K ca W H p ao → AO.bd n ao
  | .lst ds, ⟨vs, _, r⟩ => RelDs.bd h ds vs r
  | .dic t kvs, ⟨ho, _, r⟩ => by
    rcases r with ⟨_, kv, _, _, r⟩ | ⟨_, kv, _, _, r⟩
    · exact RelDs.bd h _ _ r
    · exact RelDs.bd h _ _ r
  | .obj cn vs, ⟨dx, fv, _, _, r⟩ => RelDs.bd h vs _ r
  | .dead, _ => True.intro
theorem RelAO.trim {H : Hp} {p : Addr} : ∀ {ao : AO}, RelAO K ca W H p ao → AO.bd n ao → RelAO K ca (W.cut n) H p ao
  | .lst ds, ⟨vs, h, r⟩, b => ⟨vs, h, RelDs.trim ds vs r b⟩
  | .dic t kvs, ⟨ho, h, r⟩, b => ⟨ho, h, by
    rcases r with ⟨e0, kv, e, e1, r⟩ | ⟨e0, kv, e, e1, r⟩
    · exact .inl ⟨e0, kv, e, e1, RelDs.trim _ _ r b⟩
    · exact .inr ⟨e0, kv, e, e1, RelDs.trim _ _ r b⟩⟩
  | .obj cn vs, ⟨dx, fv, h, e, r⟩, b => ⟨dx, fv, h, e, RelDs.trim vs _ r b⟩
  | .dead, _, _ => True.intro
theorem RH.cut {a : A} {H : Hp} (R : RH K ca W a H) (hn : n ≤ a.length) (hb : ∀ (i : Nat) (ao : AO), (a.take n)[i]? = some ao → AO.bd n ao) : RH K ca (W.cut n) (a.take n) H := by
  have lt : ∀ m, m < n → m < W.N := fun m h => by rw [R.len]; omega
  have up : ∀ {i : Nat} {ao : AO}, (a.take n)[i]? = some ao → a[i]? = some ao := fun {i ao} h => by
    rw [List.getElem?_take] at h
    by_cases e : i < n
    · rw [if_pos e] at h; exact h
    · rw [if_neg e] at h; cases h
  exact ⟨by show n = _; rw [List.length_take]; omega, R.sub, fun i ao h => (R.obj i ao (up h)).trim (hb i ao h), fun i ao h => R.ng i ao (up h), fun m h => R.th m (lt m h), fun i j hi hj => R.inj i j (lt i hi) (lt j hj), fun b u h => let ⟨h1, h2, h3⟩ := R.zs b u h; ⟨h1, h2, fun m hm => h3 m (lt m hm)⟩⟩
end
/-- a def's end: what it made for itself is forgotten (n: as many locs remain) -/
def Ret (a0 : A) (Q : DQ) : DQ := fun d a => ∃ n, a0.length ≤ n ∧ n ≤ a.length ∧ (∀ (i : Nat) (ao : AO), (a.take n)[i]? = some ao → a0[i]? = some ao ∨ AO.bd n ao) ∧ D.bd n d ∧ Q d (a.take n)
/-- all of it remains -/
def startD (N : List Str) (ds : List D) : En := ds.map some ++ List.replicate (N.length - ds.length) none
theorem Ret.kont {K : PySem.W.Frag} {ca : Ci} {W : Wo} {a0 : A} {H0 : Hp} {Q : DQ} {Q2 : VK} (R0 : RH K ca W a0 H0) (k : Kont K ca W Q Q2) : Kont K ca W (Ret a0 Q) Q2 := by
  intro v H' W' a' d l R r q
  obtain ⟨n, h1, h2, h3, h4, q⟩ := q
  have hN : W.N ≤ n := by rw [R0.len]; exact h1
  refine k v H' (W'.cut n) (a'.take n) d ⟨⟨l.G, hN, l.ι⟩, l.Z⟩ (R.cut h2 fun i ao h => ?_) (RelD.trim d v r h4) q
  rcases h3 i ao h with e | e
  · exact RelAO.bd hN (R0.obj i ao e)
  · exact e
theorem start_rel {K : PySem.W.Frag} {W : Wo} {N : List Str} {ds : List D} {vs : List V} (r : RelDs K W ds vs) : (∀ (i : Nat) (d : D), (startD N ds)[i]? = some (some d) → ∃ v, (L2.start N vs)[i]? = some (some v) ∧ RelD K W d v) ∧ (startD N ds).length = (L2.start N vs).length := by
  have hl := r.length
  refine ⟨fun i d h => ?_, by simp [startD, L2.start, hl]⟩
  unfold startD at h
  by_cases hi : i < ds.length
  · rw [List.getElem?_append_left (by rw [List.length_map]; exact hi), List.getElem?_map] at h
    cases e : ds[i]? with
    | none => rw [e] at h; cases h
    | some d' =>
      rw [e] at h
      cases h
      obtain ⟨v, hv, rv⟩ := r.get e
      refine ⟨v, ?_, rv⟩
      unfold L2.start
      rw [List.getElem?_append_left (by rw [List.length_map]; omega), List.getElem?_map, hv]
      rfl
  · rw [List.getElem?_append_right (by rw [List.length_map]; omega), List.getElem?_replicate] at h
    split at h <;> cases h
section
variable {P : Program} {w : World} {K : PySem.W.Frag} {mg : Str → Option Value} {base : Heap} {x qual : Str} {params : Arguments} {body : List Stmt} {scope : Scope} {dvs : List V} {kws : List (Str × V)} {f : Addr} {fd : FuncData} {ca : Ci} {N ps : List Str} {k : Nat} {S : WSp} {t : TS'}
/-- a def keeps its promise: its derivation, its reading -/
theorem fnD (F : FunD K x qual params body scope dvs kws f fd) (sc : FnScope N ps scope) (len : ∀ ds a Q E, S ds a Q E → ds.length = ps.length)
    (hb : ∀ (cdv : Value) (A : Around) (outer : List Env) (s : Shared) (H : Hp) (E : XK) (W0 : Bw), Room k (A.deeper (envOfC qual scope s.heap.objs.size f cdv)) → DSs (cxOf CX0 P w K mg base N qual scope f cdv A outer s H E).nox ca W0 body t)
    (rd : ∀ ds a Q E, S ds a Q E → t { nx := fun _ a' => Ret a Q .non a', rt := Ret a Q } (startD N ds) a) : FnOk P w K mg base CX0 (k + 1) f fd ps (spD K ca S) := by
  refine F.ok sc (fun vs H Q E h => ?_) fun cdv A outer s H vs Q E hr h => ?_
  · obtain ⟨W, a, ds, Qd, Ed, R, r, h, _⟩ := h
    rw [← r.length]; exact len ds a Qd Ed h
  · obtain ⟨W, a, ds, Qd, Ed, R, r, h, kq, _⟩ := h
    obtain ⟨ts, p, hq⟩ := hb cdv A outer s H E (Bw.of W) hr
    refine ⟨ts, p.nox, ?_⟩
    obtain ⟨sl, ln⟩ := start_rel (N := N) r
    have kr := Ret.kont R kq
    refine hq W a H (startD N ds) (L2.start N vs) _ _ ⟨Wo.le.refl, R, sl, ln⟩ (rd ds a Qd Ed h) ⟨fun σ' H' W' A' ρ' l R' q => ?_, kr, fun σ' H' W' A' ρ' l R' q => q.elim, fun σ' H' W' A' ρ' l R' q => q.elim⟩
    exact kr .non H' W' A' .non l R'.rh rfl q
end
end DW
set_option Elab.async false
set_option linter.all false
set_option maxRecDepth 100000
set_option maxHeartbeats 1000000
namespace DW
open PySem PySem.Spec PyProof.Rows L2
/-! ## The rules by the names that the printed derivations use -/
def rSub (d e : D) (a : A) (Q : DQ) : Prop := match d with | .int i => (match e with | .int j => Q (.int (i - j)) a | _ => False) | _ => False
def rFdiv (d e : D) (a : A) (Q : DQ) : Prop := match d with | .int i => (match e with | .int j => (0 < j ∧ j < 1073741824) ∧ Q (.int (i / j)) a | _ => False) | _ => False
def rMod (d e : D) (a : A) (Q : DQ) : Prop := match d with | .int i => (match e with | .int j => 0 < j ∧ Q (.int (i % j)) a | _ => False) | _ => False
def rPow (d e : D) (a : A) (Q : DQ) : Prop := match d with | .int i => (match e with | .int j => (0 ≤ j ∧ j ≤ 1000000 ∧ i.natAbs < 2 ^ 64) ∧ Q (.int (i ^ j.toNat)) a | _ => False) | _ => False
def rShl (d e : D) (a : A) (Q : DQ) : Prop := match d with | .int i => (match e with | .int j => (0 ≤ j ∧ j ≤ 1000000 ∧ i.natAbs < 2 ^ 64) ∧ Q (.int (i * 2 ^ j.toNat)) a | _ => False) | _ => False
def rShr (d e : D) (a : A) (Q : DQ) : Prop := match d with | .int i => (match e with | .int j => 0 ≤ j ∧ Q (.int (i / 2 ^ j.toNat)) a | _ => False) | _ => False
def rBAnd (d e : D) (a : A) (Q : DQ) : Prop := match d with | .int i => (match e with | .int j => Q (.int (Builtin.bitAnd i j)) a | _ => False) | _ => False
def rBOr (d e : D) (a : A) (Q : DQ) : Prop := match d with | .int i => (match e with | .int j => Q (.int (Builtin.bitOr i j)) a | _ => False) | _ => False
def rBXor (d e : D) (a : A) (Q : DQ) : Prop := match d with | .int i => (match e with | .int j => Q (.int (Builtin.bitXor i j)) a | _ => False) | _ => False
def rLt (d e : D) (a : A) (Q : DQ) : Prop := match d with | .int i => (match e with | .int j => Q (.bl (decide (i < j))) a | _ => False) | _ => False
def rLe (d e : D) (a : A) (Q : DQ) : Prop := match d with | .int i => (match e with | .int j => Q (.bl (decide (i ≤ j))) a | _ => False) | _ => False
def rGt (d e : D) (a : A) (Q : DQ) : Prop := match d with | .int i => (match e with | .int j => Q (.bl (decide (j < i))) a | _ => False) | _ => False
def rGe (d e : D) (a : A) (Q : DQ) : Prop := match d with | .int i => (match e with | .int j => Q (.bl (decide (j ≤ i))) a | _ => False) | _ => False
def rAddI (d e : D) (a : A) (Q : DQ) : Prop := match d with | .int i => (match e with | .int j => Q (.int (i + j)) a | _ => False) | _ => False
def rMulI (d e : D) (a : A) (Q : DQ) : Prop := match d with | .int i => (match e with | .int j => CMul i j ∧ Q (.int (i * j)) a | _ => False) | _ => False
def rNeg (d : D) (a : A) (Q : DQ) : Prop := match d with | .int i => Q (.int (-i)) a | _ => False
def rAddS (d e : D) (a : A) (Q : DQ) : Prop := match d with | .str i => (match e with | .str j => Fits (i.length + j.length) ∧ Q (.str (i ++ j)) a | _ => False) | _ => False
def rIsN (d e : D) (a : A) (Q : DQ) : Prop := noRaw d ∧ rIs d e a Q
def rIsNotN (d e : D) (a : A) (Q : DQ) : Prop := noRaw d ∧ rIsNot d e a Q
section
variable {X : Cx} {ca : Ci} {W0 : Bw} {pos : Pos} {e f g : Expr} {ta tb tc : TE'}
theorem od_sub {K : PySem.W.Frag} : Op2 K ca (rI0 fun i j => .int (i - j)) rSub := Op2.imp (od_int0 (g := fun i j => i - j)) fun d e a Q h => by cases d <;> first | exact h.elim | skip
                                                                                                                                                 cases e <;> first | exact h.elim | exact ⟨True.intro, h⟩
theorem od_addI {K : PySem.W.Frag} : Op2 K ca (rI0 fun i j => .int (i + j)) rAddI := Op2.imp (od_int0 (g := fun i j => i + j)) fun d e a Q h => by
  cases d <;> first | exact h.elim | skip
  cases e <;> first | exact h.elim | exact ⟨True.intro, h⟩
theorem od_mulI {K : PySem.W.Frag} : Op2 K ca (rI CMul fun i j => .int (i * j)) rMulI := Op2.imp (od_int (C := CMul) (g := fun i j => i * j)) fun d e a Q h => by
  cases d <;> first | exact h.elim | skip
  cases e <;> first | exact h.elim | exact h
theorem od_addS {K : PySem.W.Frag} : Op2 K ca (fun x y H Q => ∃ i j, x = .str i ∧ y = .str j ∧ i.length + j.length ≤ sizeLine ∧ Q (.str (i ++ j)) H) rAddS := by
  intro W a H d e x y Q Q2 R rx ry h k
  cases d <;> first | exact (show False from h).elim | skip
  cases e <;> first | exact (show False from h).elim | skip
  rw [show x = V.str _ from rx, show y = V.str _ from ry]
  exact ⟨_, _, rfl, rfl, h.1.le, k.str R h.2⟩
theorem od_neg {K : PySem.W.Frag} : Op1 K ca (rU fun i => .int (-i)) rNeg := by
  intro W a H d x Q Q2 R rx h k
  cases d <;> first | exact (show False from h).elim | skip
  rw [show x = V.int _ from rx]
  exact ⟨_, rfl, k.int R h⟩
theorem od_fdiv {K : PySem.W.Frag} : Op2 K ca (rI CDiv fun i j => .int (i / j)) rFdiv := Op2.imp (od_int (C := CDiv) (g := fun i j => i / j)) fun d e a Q h => by
  cases d <;> first | exact h.elim | skip
  cases e <;> first | exact h.elim | exact h
theorem od_mod {K : PySem.W.Frag} : Op2 K ca (rI (fun _ j => 0 < j) fun i j => .int (i % j)) rMod := Op2.imp (od_int (C := fun _ j => 0 < j) (g := fun i j => i % j)) fun d e a Q h => by
  cases d <;> first | exact h.elim | skip
  cases e <;> first | exact h.elim | exact h
theorem od_pow {K : PySem.W.Frag} : Op2 K ca (rI CPow fun i j => .int (i ^ j.toNat)) rPow := Op2.imp (od_int (C := CPow) (g := fun i j => i ^ j.toNat)) fun d e a Q h => by
  cases d <;> first | exact h.elim | skip
  cases e <;> first | exact h.elim | exact h
theorem od_shl {K : PySem.W.Frag} : Op2 K ca (rI CPow fun i j => .int (i * 2 ^ j.toNat)) rShl := Op2.imp (od_int (C := CPow) (g := fun i j => i * 2 ^ j.toNat)) fun d e a Q h => by
  cases d <;> first | exact h.elim | skip
  cases e <;> first | exact h.elim | exact h
theorem od_shr {K : PySem.W.Frag} : Op2 K ca (rI (fun _ j => 0 ≤ j) fun i j => .int (i / 2 ^ j.toNat)) rShr := Op2.imp (od_int (C := fun _ j => 0 ≤ j) (g := fun i j => i / 2 ^ j.toNat)) fun d e a Q h => by
  cases d <;> first | exact h.elim | skip
  cases e <;> first | exact h.elim | exact h
theorem od_and {K : PySem.W.Frag} : Op2 K ca (rI0 fun i j => .int (Builtin.bitAnd i j)) rBAnd := Op2.imp (od_int0 (g := Builtin.bitAnd)) fun d e a Q h => by
  cases d <;> first | exact h.elim | skip
  cases e <;> first | exact h.elim | exact ⟨True.intro, h⟩
theorem od_or {K : PySem.W.Frag} : Op2 K ca (rI0 fun i j => .int (Builtin.bitOr i j)) rBOr := Op2.imp (od_int0 (g := Builtin.bitOr)) fun d e a Q h => by
  cases d <;> first | exact h.elim | skip
  cases e <;> first | exact h.elim | exact ⟨True.intro, h⟩
theorem od_xor {K : PySem.W.Frag} : Op2 K ca (rI0 fun i j => .int (Builtin.bitXor i j)) rBXor := Op2.imp (od_int0 (g := Builtin.bitXor)) fun d e a Q h => by
  cases d <;> first | exact h.elim | skip
  cases e <;> first | exact h.elim | exact ⟨True.intro, h⟩
theorem od_lt {K : PySem.W.Frag} : Op2 K ca (rI0 fun i j => .bl (decide (i < j))) rLt := Op2.imp (od_intB (g := fun i j => decide (i < j))) fun d e a Q h => by
  cases d <;> first | exact h.elim | skip
  cases e <;> first | exact h.elim | exact h
theorem od_le {K : PySem.W.Frag} : Op2 K ca (rI0 fun i j => .bl (decide (i ≤ j))) rLe := Op2.imp (od_intB (g := fun i j => decide (i ≤ j))) fun d e a Q h => by
  cases d <;> first | exact h.elim | skip
  cases e <;> first | exact h.elim | exact h
theorem od_gt {K : PySem.W.Frag} : Op2 K ca (rI0 fun i j => .bl (decide (j < i))) rGt := Op2.imp (od_intB (g := fun i j => decide (j < i))) fun d e a Q h => by
  cases d <;> first | exact h.elim | skip
  cases e <;> first | exact h.elim | exact h
theorem od_ge {K : PySem.W.Frag} : Op2 K ca (rI0 fun i j => .bl (decide (j ≤ i))) rGe := Op2.imp (od_intB (g := fun i j => decide (j ≤ i))) fun d e a Q h => by
  cases d <;> first | exact h.elim | skip
  cases e <;> first | exact h.elim | exact h
/-- a op b op' c -/
def wChain (r r' : D → D → A → DQ → Prop) (ta tb tc : TE') : TE' := fun ρ a Q => ta ρ a fun d a1 => tb ρ a1 fun e a2 => r d e a2 fun z a3 => match z with
  | .bl k => if k = true then tc ρ a3 fun y a4 => r' e y a4 Q else Q (.bl false) a3
  | _ => False
theorem chain_ok {te tf tg : TE} {r r' : D → D → A → DQ → Prop} {rr rr' : R2} {Q : DQ} {Q2 : VK} (hr : Op2 X.K ca rr r) (hr' : Op2 X.K ca rr' r')
    (he : ∀ W a H ρ σ Q Q2, RS X.K ca W0 W a H ρ σ → ta ρ a Q → Kont X.K ca W Q Q2 → te σ H Q2) (hf : ∀ W a H ρ σ Q Q2, RS X.K ca W0 W a H ρ σ → tb ρ a Q → Kont X.K ca W Q Q2 → tf σ H Q2) (hg : ∀ W a H ρ σ Q Q2, RS X.K ca W0 W a H ρ σ → tc ρ a Q → Kont X.K ca W Q Q2 → tg σ H Q2)
    {W : Wo} {a : A} {H : Hp} {ρ : En} {σ : L2.St} (R : RS X.K ca W0 W a H ρ σ) (h : wChain r r' ta tb tc ρ a Q) (k : Kont X.K ca W Q Q2) : tChain rr rr' te tf tg σ H Q2 := by
  refine he W a H ρ σ _ _ R h fun x H1 W1 a1 d l1 R1 r1 q1 => ?_
  refine hf W1 a1 H1 ρ σ _ _ (R.next l1 R1) q1 fun y H2 W2 a2 e l2 R2 r2 q2 => ?_
  refine hr W2 a2 H2 d e x y _ _ R2 (r1.le l2) r2 q2 fun z H3 W3 a3 zd l3 R3 r3 q3 => ?_
  cases zd <;> first | exact (show False from q3).elim | skip
  rename_i b
  refine ⟨b, r3, ?_⟩
  have L := l1.trans (l2.trans l3)
  cases b with
  | false => rw [if_neg Bool.false_ne_true]; exact k _ H3 W3 a3 (.bl false) L R3 rfl q3
  | true =>
    rw [if_pos rfl]
    exact hg W3 a3 H3 ρ σ _ _ (R.next L R3) q3 fun y' H4 W4 a4 e4 l4 R4 r4 q4 => hr' W4 a4 H4 e e4 y y' _ _ R4 (r2.le (l3.trans l4)) r4 q4 (k.le (L.trans l4))
theorem de_chain {op op' : CmpOp} {r r' : D → D → A → DQ → Prop} {rr rr' : R2} (ho : OpR X (compareOp op) rr) (ho' : OpR X (compareOp op') rr') (hr : Op2 X.K ca rr r) (hr' : Op2 X.K ca rr' r') (he : DE X ca W0 e ta) (hf : DE X ca W0 f tb) (hg : DE X ca W0 g tc)
    (hm : lastMarks [op, op'] [f, g] = false := by with_unfolding_all rfl) : DE X ca W0 (.Compare e [op, op'] [f, g] pos) (wChain r r' ta tb tc) := by
  obtain ⟨te, pe, he⟩ := he
  obtain ⟨tf, pf, hf⟩ := hf
  obtain ⟨tg, pg, hg⟩ := hg
  exact ⟨_, pe_chain ho ho' pe pf pg hm, fun W a H ρ σ Q Q2 R h k => chain_ok hr hr' he hf hg R h k⟩
theorem dt_chain {op op' : CmpOp} {r r' : D → D → A → DQ → Prop} {rr rr' : R2} (ho : OpR X (compareOp op) rr) (ho' : OpR X (compareOp op') rr') (hr : Op2 X.K ca rr r) (hr' : Op2 X.K ca rr' r') (he : DE X ca W0 e ta) (hf : DE X ca W0 f tb) (hg : DE X ca W0 g tc)
    (hm : lastMarks [op, op'] [f, g] = false := by with_unfolding_all rfl) : DT X ca W0 (.Compare e [op, op'] [f, g] pos) (wTest (wChain r r' ta tb tc)) := by
  obtain ⟨te, pe, he⟩ := he
  obtain ⟨tf, pf, hf⟩ := hf
  obtain ⟨tg, pg, hg⟩ := hg
  refine ⟨_, pt_chain ho ho' pe pf pg hm, fun W a H ρ σ Q Q2 R h k => chain_ok hr hr' he hf hg R h fun v H' W' a' d l R' rd q => ?_⟩
  cases d <;> first | exact (show False from q).elim | skip
  rw [show v = V.bl _ from rd]
  exact ⟨_, rfl, k _ H' W' a' l R' q⟩
end
/-- a text's letters are told apart -/
theorem hu1 {k : Nat} {A' : Around} (r : Room k A') : A'.units + 1 < cLine := hu_of r
theorem hu65 {k : Nat} {A' : Around} (r : Room k A') : A'.units + 65 < cLine := by have := r.un; omega
end DW
set_option Elab.async false
set_option linter.all false
set_option maxRecDepth 100000
set_option maxHeartbeats 1000000
namespace DW
open PySem PySem.Spec PyProof.Rows L2
/-! ## The readings, applied: what the readers' simp set rests on -/
def goSeq (d : D) (a1 : A) (Q : ItD → A → Prop) : Prop := match d with
  | .loc n => (match a1[n]? with | some (.lst ds) => Q ⟨ds, fun a' => a'[n]? = some (.lst ds)⟩ a1 | _ => False)
  | d => match vwS a1 d with | some ds => Q ⟨ds, fun _ => True⟩ a1 | none => False
section
variable {i j : Nat} {t u : TE'} {ts us : TA'} {ρ : En} {a : A} {Q : DQ} {T U : TT'} {R : Bool → A → Prop} {S : WSp} {D' : Dn} {x y : Int} {p q : Str} {b c : Bool} {d e : D} {ds es : List D} {sS sT : TS'} {m : Bool} {cn : Nat}
theorem e_var : wVar i ρ a Q = match ρ[i]? with | some (some d) => Q d a | _ => False := rfl
theorem e_C : wC d ρ a Q = Q d a := rfl
theorem e_op {r} : wOp r t u ρ a Q = t ρ a fun d a1 => u ρ a1 fun e a2 => r d e a2 Q := rfl
theorem e_un {r} : wUn r t ρ a Q = t ρ a fun d a1 => r d a1 Q := rfl
theorem e_test : wTest t ρ a R = t ρ a fun d a1 => match d with | .bl b => R b a1 | _ => False := rfl
theorem e_tru : wTru t ρ a R = t ρ a fun d a1 => match truD a1 d with | some k => R k a1 | none => False := rfl
theorem e_and : wAnd T U ρ a R = T ρ a fun c a1 => if c = true then U ρ a1 R else R false a1 := rfl
theorem e_or : wOr T U ρ a R = T ρ a fun c a1 => if c = true then R true a1 else U ρ a1 R := rfl
theorem e_not : wNot T ρ a R = T ρ a fun c a1 => R (!c) a1 := rfl
theorem e_andV : wAndV t u ρ a Q = t ρ a fun d a1 => match truD a1 d with | some k => (if k = true then u ρ a1 Q else Q d a1) | none => False := rfl
theorem e_orV : wOrV t u ρ a Q = t ρ a fun d a1 => match truD a1 d with | some k => (if k = true then Q d a1 else u ρ a1 Q) | none => False := rfl
theorem e_notV : wNotV t ρ a Q = t ρ a fun d a1 => match truD a1 d with | some k => Q (.bl (!k)) a1 | none => False := rfl
theorem e_if : wIf T t u ρ a Q = T ρ a fun b a1 => if b = true then t ρ a1 Q else u ρ a1 Q := rfl
theorem e_nil {Q : List D → A → Prop} : wNil ρ a Q = Q [] a := rfl
theorem e_cons {Q : List D → A → Prop} : wCons t ts ρ a Q = t ρ a fun d a1 => ts ρ a1 fun ds a2 => Q (d :: ds) a2 := rfl
theorem e_lst : wLst ts ρ a Q = ts ρ a fun ds a1 => Fits ds.length ∧ Q (.lst ds) a1 := rfl
theorem e_lstM : wLstM ts ρ a Q = ts ρ a fun ds a1 => Fits ds.length ∧ Q (.loc a1.length) (a1 ++ [.lst ds]) := rfl
theorem e_tup : wTup ts ρ a Q = ts ρ a fun ds a1 => Fits ds.length ∧ Q (.tup ds) a1 := rfl
theorem e_N {r} : wN r ts ρ a Q = ts ρ a fun ds a1 => r ds a1 Q := rfl
theorem e_R1 {r} : R1 r [d] a Q = r d a Q := rfl
theorem e_R2 {r} : R2' r [d, e] a Q = r d e a Q := rfl
theorem e_call : wCall S ts ρ a Q = ts ρ a fun ds a1 => S ds a1 Q noX := rfl
theorem e_meth : wMeth cn S t ts ρ a Q = t ρ a fun d a1 => (objV a1 cn d).isSome = true ∧ ts ρ a1 fun ds a2 => S (d :: ds) a2 Q noX := rfl
theorem e_make : wMake cn S ts ρ a Q = ts ρ a fun ds a1 => S (.loc a1.length :: ds) (a1 ++ [.obj cn []]) (fun d a2 => d = .non ∧ a1.length < a2.length ∧ Q (.loc a1.length) a2) noX := rfl
theorem e_fld : wFld cn i t ρ a Q = t ρ a fun d a1 => match objV a1 cn d with | some (_, vs) => (match vs[i]? with | some x => Q x a1 | none => False) | none => False := rfl
theorem e_bm {B r} : wBM B r t ts ρ a Q = t ρ a fun d a1 => B.is a1 d = true ∧ ts ρ a1 fun ds a2 => r d ds a2 Q := rfl
theorem e_noPart {Q : Option Int → A → Prop} : wNoPart ρ a Q = Q none a := rfl
theorem e_part {Q : Option Int → A → Prop} : wPart t ρ a Q = t ρ a fun d a1 => match d with | .int i => Q (some i) a1 | _ => False := rfl
theorem e_sl {tl th : TO'} : wSl m t tl th ρ a Q = t ρ a fun d a1 => tl ρ a1 fun l a2 => th ρ a2 fun u a3 => rSl m d l u a3 Q := rfl
theorem e_yes : wYes ρ a R = R true a := rfl
theorem e_lc {ti g T vs} : wLc m ti g T t vs ρ a Q = ti ρ a fun I a1 => lcW I.ok g T t (wipeD ρ vs) (fun acc a2 => Fits acc.length ∧ outL m acc a2 Q) I.items [] a1 := rfl
theorem e_seqI {Q : ItD → A → Prop} : iSeq t ρ a Q = t ρ a fun d a1 => goSeq d a1 Q := rfl
theorem e_goL {Q : ItD → A → Prop} : goSeq (.lst ds) a Q = Q ⟨ds, fun _ => True⟩ a := rfl
theorem e_goScr {ns : List Int} {Q : ItD → A → Prop} : goSeq (.scr ns) a Q = Q ⟨ns.map D.int, fun _ => True⟩ a := rfl
theorem e_rng1 {Q : ItD → A → Prop} : iRng1 ts ρ a Q = ts ρ a fun ds a1 => match ds with | [.int j] => -(2 ^ 62) ≤ j ∧ j < 2 ^ 62 ∧ Q ⟨rngD 0 j.toNat, fun _ => True⟩ a1 | _ => False := rfl
theorem e_rng2 {Q : ItD → A → Prop} : iRng2 ts ρ a Q = ts ρ a fun ds a1 => match ds with | [.int i, .int j] => (-(2 ^ 62) ≤ i ∧ i < 2 ^ 62 ∧ -(2 ^ 62) ≤ j ∧ j < 2 ^ 62) ∧ Q ⟨rngD i (j - i).toNat, fun _ => True⟩ a1 | _ => False := rfl
/-! statements -/
theorem e_next : sNext D' ρ a = D'.nx ρ a := rfl
theorem e_seq : sSeq sS sT D' ρ a = sS { D' with nx := sT D' } ρ a := rfl
theorem e_set : sSet i t D' ρ a = t ρ a fun d a1 => D'.nx (ρ.set i (some d)) a1 := rfl
theorem e_asg {g : Tg} : sAsg g t D' ρ a = t ρ a fun d a1 => match g.put d ρ with | some ρ' => D'.nx ρ' a1 | none => False := rfl
theorem e_exp : sExp t D' ρ a = t ρ a fun _ a1 => D'.nx ρ a1 := rfl
theorem e_ret : sRet t D' ρ a = t ρ a D'.rt := rfl
theorem e_retN : sRetN D' ρ a = D'.rt .non a := rfl
theorem e_sif : sIf T sS sT D' ρ a = T ρ a fun b a1 => if b = true then sS D' ρ a1 else sT D' ρ a1 := rfl
theorem e_brk : sBrk D' ρ a = D'.bk ρ a := rfl
theorem e_cnt : sCnt D' ρ a = D'.ct ρ a := rfl
theorem e_sub {w : TE'} : sSub t u w D' ρ a = t ρ a fun d a1 => u ρ a1 fun o a2 => w ρ a2 fun i a3 => setSub o i d a3 fun a4 => D'.nx ρ a4 := rfl
theorem e_augsub {r} {w : TE'} : sAugSub r t u w D' ρ a = t ρ a fun o a1 => u ρ a1 fun i a2 => rGet o i a2 fun x a3 => w ρ a3 fun y a4 => r x y a4 fun z a5 => setSub o i z a5 fun a6 => D'.nx ρ a6 := rfl
theorem e_aug {r} : sAug i r t D' ρ a = match ρ[i]? with
  | some (some x) => t ρ a fun y a1 => r x y a1 fun z a2 => D'.nx (ρ.set i (some z)) a2
  | _ => False := rfl
theorem e_sfld : sFld cn i t u D' ρ a = t ρ a fun d a1 => u ρ a1 fun o a2 => match objV a2 cn o with | some (n, vs) => i ≤ vs.length ∧ D'.nx ρ (setFld a2 n cn i vs d) | none => False := rfl
theorem e_augfld {r} : sAugFld cn i r t u D' ρ a = t ρ a fun o a1 => match objV a1 cn o with
  | some (_, vs) => (match vs[i]? with
    | some x => u ρ a1 fun y a2 => r x y a2 fun z a3 => (match objV a3 cn o with | some (n, vs') => i < vs'.length ∧ D'.nx ρ (setFld a3 n cn i vs' z) | none => False)
    | none => False)
  | none => False := rfl
theorem e_for {ti : TI'} {g : Tg} : sFor ti g sS D' ρ a = ti ρ a fun I a1 => forW I.ok g sS D' I.items ρ a1 := rfl
theorem e_chain {r r'} {w : TE'} : wChain r r' t u w ρ a Q = t ρ a fun d a1 => u ρ a1 fun e a2 => r d e a2 fun z a3 => match z with
  | .bl k => if k = true then w ρ a3 fun y a4 => r' e y a4 Q else Q (.bl false) a3
  | _ => False := rfl
/-! operators -/
theorem e_add : rAdd (.int x) (.int y) a Q = Q (.int (x + y)) a := rfl
theorem e_addI : rAddI (.int x) (.int y) a Q = Q (.int (x + y)) a := rfl
theorem e_addL : rAdd (.lst ds) (.lst es) a Q = (Fits (ds.length + es.length) ∧ Q (.lst (ds ++ es)) a) := rfl
theorem e_addT : rAdd (.tup ds) (.tup es) a Q = (Fits (ds.length + es.length) ∧ Q (.tup (ds ++ es)) a) := rfl
theorem e_addS : rAdd (.str p) (.str q) a Q = (Fits (p.length + q.length) ∧ Q (.str (p ++ q)) a) := rfl
theorem e_subI : rSub (.int x) (.int y) a Q = Q (.int (x - y)) a := rfl
theorem e_mul : rMul (.int x) (.int y) a Q = (CMul x y ∧ Q (.int (x * y)) a) := rfl
theorem e_mulI : rMulI (.int x) (.int y) a Q = (CMul x y ∧ Q (.int (x * y)) a) := rfl
theorem e_fdiv : rFdiv (.int x) (.int y) a Q = ((0 < y ∧ y < 1073741824) ∧ Q (.int (x / y)) a) := rfl
theorem e_mod : rMod (.int x) (.int y) a Q = (0 < y ∧ Q (.int (x % y)) a) := rfl
theorem e_pow : rPow (.int x) (.int y) a Q = ((0 ≤ y ∧ y ≤ 1000000 ∧ x.natAbs < 2 ^ 64) ∧ Q (.int (x ^ y.toNat)) a) := rfl
theorem e_shl : rShl (.int x) (.int y) a Q = ((0 ≤ y ∧ y ≤ 1000000 ∧ x.natAbs < 2 ^ 64) ∧ Q (.int (x * 2 ^ y.toNat)) a) := rfl
theorem e_shr : rShr (.int x) (.int y) a Q = (0 ≤ y ∧ Q (.int (x / 2 ^ y.toNat)) a) := rfl
theorem e_band : rBAnd (.int x) (.int y) a Q = Q (.int (Builtin.bitAnd x y)) a := rfl
theorem e_bor : rBOr (.int x) (.int y) a Q = Q (.int (Builtin.bitOr x y)) a := rfl
theorem e_bxor : rBXor (.int x) (.int y) a Q = Q (.int (Builtin.bitXor x y)) a := rfl
theorem e_lt : rLt (.int x) (.int y) a Q = Q (.bl (decide (x < y))) a := rfl
theorem e_le : rLe (.int x) (.int y) a Q = Q (.bl (decide (x ≤ y))) a := rfl
theorem e_gt : rGt (.int x) (.int y) a Q = Q (.bl (decide (y < x))) a := rfl
theorem e_ge : rGe (.int x) (.int y) a Q = Q (.bl (decide (y ≤ x))) a := rfl
theorem e_neg : rNeg (.int x) a Q = Q (.int (-x)) a := rfl
theorem e_eqI : rEq (.int x) (.int y) a Q = Q (.bl (decide (x = y))) a := rfl
theorem e_neI : rNe (.int x) (.int y) a Q = Q (.bl (!decide (x = y))) a := rfl
theorem e_eqS : rEq (.str p) (.str q) a Q = Q (.bl (decide (p = q))) a := rfl
theorem e_neS : rNe (.str p) (.str q) a Q = Q (.bl (!decide (p = q))) a := rfl
theorem e_eqB : rEq (.bl b) (.bl c) a Q = Q (.bl (b == c)) a := rfl
theorem e_neB : rNe (.bl b) (.bl c) a Q = Q (.bl (!(b == c))) a := rfl
theorem e_eqNI : rEq .non (.int x) a Q = Q (.bl false) a := rfl
theorem e_neNI : rNe .non (.int x) a Q = Q (.bl true) a := rfl
theorem e_isNN : rIsN .non .non a Q = (True ∧ Q (.bl true) a) := rfl
theorem e_isIN : rIsN (.int x) .non a Q = (True ∧ Q (.bl false) a) := rfl
theorem e_isSN : rIsN (.str p) .non a Q = (True ∧ Q (.bl false) a) := rfl
theorem e_isBN : rIsN (.bl b) .non a Q = (True ∧ Q (.bl false) a) := rfl
theorem e_isTN : rIsN (.tup ds) .non a Q = (True ∧ Q (.bl false) a) := rfl
theorem e_isLN : rIsN (.lst ds) .non a Q = (True ∧ Q (.bl false) a) := rfl
theorem e_isON : rIsN (.loc i) .non a Q = (True ∧ Q (.bl false) a) := rfl
theorem e_isntNN : rIsNotN .non .non a Q = (True ∧ Q (.bl false) a) := rfl
theorem e_isntIN : rIsNotN (.int x) .non a Q = (True ∧ Q (.bl true) a) := rfl
theorem e_isntSN : rIsNotN (.str p) .non a Q = (True ∧ Q (.bl true) a) := rfl
theorem e_isntTN : rIsNotN (.tup ds) .non a Q = (True ∧ Q (.bl true) a) := rfl
theorem e_isntLN : rIsNotN (.lst ds) .non a Q = (True ∧ Q (.bl true) a) := rfl
theorem e_isntON : rIsNotN (.loc i) .non a Q = (True ∧ Q (.bl true) a) := rfl
theorem e_min2 : rMin2 (.int x) (.int y) a Q = Q (.int (if y < x then y else x)) a := rfl
theorem e_max2 : rMax2 (.int x) (.int y) a Q = Q (.int (if y > x then y else x)) a := rfl
theorem e_int1 : rInt1 (.int x) a Q = Q (.int x) a := rfl
theorem e_int1b : rInt1 (.bl b) a Q = Q (.int (if b then 1 else 0)) a := rfl
theorem e_lenL : rLen (.lst ds) a Q = Q (.int ds.length) a := rfl
theorem e_lenT : rLen (.tup ds) a Q = Q (.int ds.length) a := rfl
theorem e_lenKT : rLen (.ktup ds) a Q = Q (.int ds.length) a := rfl
theorem e_lenS : rLen (.str p) a Q = (Fits p.length ∧ Q (.int p.length) a) := rfl
theorem e_lenO (h : a[i]? = some (.lst ds)) : rLen (.loc i) a Q = Q (.int ds.length) a := by
  show (match vwLT a (.loc i) with | some ds => Q (.int ds.length) a | none => match vwD a (.loc i) with | some (t, kvs) => t = false ∧ Q (.int kvs.length) a | none => False) = _
  have : vwLT a (.loc i) = some ds := by simp only [vwLT, vwS, vwL, h]
  rw [this]
theorem e_lenScr {ns : List Int} : rLen (.scr ns) a Q = Q (.int ns.length) a := by
  show Q (.int (ns.map D.int).length) a = _
  rw [List.length_map]
theorem e_listL : rListOf m (.lst ds) a Q = (Fits ds.length ∧ outL m ds a Q) := rfl
theorem e_listT : rListOf m (.tup ds) a Q = (Fits ds.length ∧ outL m ds a Q) := rfl
theorem e_outT : outL true ds a Q = Q (.loc a.length) (a ++ [.lst ds]) := rfl
theorem e_outF : outL false ds a Q = Q (.lst ds) a := rfl
theorem e_slL {lo hi} : rSl m (.lst ds) lo hi a Q = (Fits ds.length ∧ outL m (cutD ds lo hi) a Q) := rfl
theorem e_slT {lo hi} : rSl m (.tup ds) lo hi a Q = (Fits ds.length ∧ Q (.tup (cutD ds lo hi)) a) := rfl
theorem e_slO {lo hi} (h : a[i]? = some (.lst ds)) : rSl m (.loc i) lo hi a Q = (Fits ds.length ∧ outL m (cutD ds lo hi) a Q) := by
  show (match vwS a (.loc i) with | some ds => Fits ds.length ∧ outL m (cutD ds lo hi) a Q | none => False) = _
  have : vwS a (.loc i) = some ds := by simp only [vwS, vwL, h]
  rw [this]
theorem e_ixL : rIx (.lst ds) (.int x) a Q = match L2.atI ds x with | some d => Q d a | none => False := rfl
theorem e_ixT : rIx (.tup ds) (.int x) a Q = match L2.atI ds x with | some d => Q d a | none => False := rfl
theorem e_ixKT : rIx (.ktup ds) (.int x) a Q = match L2.atI ds x with | some d => Q d a | none => False := rfl
theorem e_ixScr {ns : List Int} : rIx (.scr ns) (.int x) a Q = match L2.atI (ns.map D.int) x with | some d => Q d a | none => False := rfl
theorem e_ixO (h : a[i]? = some (.lst ds)) : rIx (.loc i) (.int x) a Q = match L2.atI ds x with | some d => Q d a | none => False := by
  have h1 : vwD a (.loc i) = none := by simp only [vwD, h]
  have h2 : vwLT a (.loc i) = some ds := by simp only [vwLT, vwS, vwL, h]
  unfold rIx
  rw [h1]
  dsimp only
  rw [h2]
  all_goals (dsimp only; cases atI ds x <;> rfl)
theorem e_append (h : a[i]? = some (.lst ds)) : rAppend (.loc i) [d] a Q = (Fits (ds.length + 1) ∧ Q .non (a.set i (.lst (ds ++ [d])))) := by
  have h2 : locL a (.loc i) = some (i, ds) := by simp only [locL, h]
  unfold rAppend
  dsimp only
  rw [h2]
theorem e_extend (h : a[i]? = some (.lst ds)) (h' : vwL a e = some es) : rExtend (.loc i) [e] a Q = (Fits (ds.length + es.length) ∧ Q .non (a.set i (.lst (ds ++ es)))) := by
  have h2 : locL a (.loc i) = some (i, ds) := by simp only [locL, h]
  unfold rExtend
  dsimp only
  rw [h2, h']
theorem e_insert (h : a[i]? = some (.lst ds)) : rInsert (.loc i) [.int x, d] a Q = (Fits (ds.length + 1) ∧ 0 ≤ x ∧ x < 2 ^ 63 ∧ Q .non (a.set i (.lst (ds.take x.toNat ++ [d] ++ ds.drop x.toNat)))) := by
  have h2 : locL a (.loc i) = some (i, ds) := by simp only [locL, h]
  unfold rInsert
  dsimp only
  rw [h2]
theorem e_isL (h : a[i]? = some (.lst ds)) : BT.is a .list (.loc i) = true := by
  show (vwS a (.loc i)).isSome = true
  simp only [vwS, vwL, h, Option.isSome_some]
theorem e_objV (h : a[i]? = some (.obj cn ds)) : objV a cn (.loc i) = some (i, ds) := by
  simp only [objV, h, if_true]
theorem e_setSub (h : a[i]? = some (.lst ds)) {k : Nat} (hx : ixN ds.length x = some k) {P : A → Prop} : setSub (.loc i) (.int x) d a P = P (a.set i (.lst (ds.set k d))) := by
  have h2 : locL a (.loc i) = some (i, ds) := by simp only [locL, h]
  unfold setSub
  rw [h2]
  dsimp only
  rw [hx]
theorem e_getO (h : a[i]? = some (.lst ds)) : rGet (.loc i) (.int x) a Q = match L2.atI ds x with | some d => Q d a | none => False := by
  have h1 : vwD a (.loc i) = none := by simp only [vwD, h]
  have h2 : vwS a (.loc i) = some ds := by simp only [vwS, vwL, h]
  unfold rGet
  rw [h1]
  dsimp only
  rw [h2]
  all_goals (dsimp only; cases atI ds x <;> rfl)
theorem e_frz {k : Nat} (hk : ρ[i]? = some (some (.loc k))) (h : a[k]? = some (.lst ds)) : wFrz (wVar i) ρ a Q = (Fits ds.length ∧ Q (.lst ds) (a.set k .dead)) := by
  unfold wFrz wVar
  simp only [hk, h]
end
/-- one statement at a time: what comes behind gets a name -/
theorem seqG {t u : TS'} {D' : Dn} {ρ : En} {a : A} (h : ∀ M, M = u D' → t { D' with nx := M } ρ a) : sSeq t u D' ρ a := h _ rfl
theorem ifG {T : TT'} {t u : TS'} {D' : Dn} {ρ : En} {a : A} (h : ∀ M N, M = t D' → N = u D' → T ρ a fun b a1 => if b = true then M ρ a1 else N ρ a1) : sIf T t u D' ρ a := h _ _ rfl rfl
/-! ## Loops by invariants -/
theorem forW_inv {ok : A → Prop} {g : Tg} {tb : TS'} {D' : Dn} {ds : List D} (I : Nat → En → A → Prop) (hok : ∀ i ρ a, I i ρ a → ok a)
    (step : ∀ (i : Nat) (d : D) (ρ : En) (a : A) (M : En → A → Prop), ds[i]? = some d → I i ρ a → (∀ ρ' a', I (i + 1) ρ' a' → M ρ' a') → ∃ ρ', g.put d ρ = some ρ' ∧ tb { D' with nx := M, ct := M, bk := D'.nx } ρ' a)
    (hend : ∀ ρ a, I ds.length ρ a → D'.nx ρ a) {ρ : En} {a : A} (h0 : I 0 ρ a) : forW ok g tb D' ds ρ a := by
  have key : ∀ (n i : Nat), i + n = ds.length → ∀ ρ a, I i ρ a → forW ok g tb D' (ds.drop i) ρ a := by
    intro n
    induction n with
    | zero =>
      intro i hi ρ a h
      have : i = ds.length := by omega
      subst this
      rw [List.drop_length]
      exact ⟨hok _ _ _ h, hend _ _ h⟩
    | succ n ih =>
      intro i hi ρ a h
      have hlt : i < ds.length := by omega
      rw [List.drop_eq_getElem_cons hlt]
      obtain ⟨ρ', h1, h2⟩ := step i ds[i] ρ a (forW ok g tb D' (ds.drop (i + 1))) (List.getElem?_eq_getElem hlt) h (fun ρ' a' h' => ih (i + 1) (by omega) ρ' a' h')
      refine ⟨hok _ _ _ h, ?_⟩
      rw [h1]
      exact h2
  have := key ds.length 0 (by omega) ρ a h0
  rwa [List.drop_zero] at this
theorem lcW_inv {ok : A → Prop} {g : Tg} {tt : TT'} {te : TE'} {ρ : En} {Q : List D → A → Prop} {ds : List D} (I : Nat → List D → A → Prop) (hok : ∀ i acc a, I i acc a → ok a)
    (step : ∀ (i : Nat) (d : D) (acc : List D) (a : A) (M : List D → A → Prop), ds[i]? = some d → I i acc a → (∀ acc' a', I (i + 1) acc' a' → M acc' a') →
      ∃ ρ', g.put d ρ = some ρ' ∧ tt ρ' a fun b a1 => if b = true then te ρ' a1 fun r a2 => Fits (acc.length + 1) ∧ M (acc ++ [r]) a2 else M acc a1)
    (hend : ∀ acc a, I ds.length acc a → Q acc a) {a : A} {acc : List D} (h0 : I 0 acc a) : lcW ok g tt te ρ Q ds acc a := by
  have key : ∀ (n i : Nat), i + n = ds.length → ∀ acc a, I i acc a → lcW ok g tt te ρ Q (ds.drop i) acc a := by
    intro n
    induction n with
    | zero =>
      intro i hi acc a h
      have : i = ds.length := by omega
      subst this
      rw [List.drop_length]
      exact ⟨hok _ _ _ h, hend _ _ h⟩
    | succ n ih =>
      intro i hi acc a h
      have hlt : i < ds.length := by omega
      rw [List.drop_eq_getElem_cons hlt]
      obtain ⟨ρ', h1, h2⟩ := step i ds[i] acc a (lcW ok g tt te ρ Q (ds.drop (i + 1))) (List.getElem?_eq_getElem hlt) h (fun acc' a' h' => ih (i + 1) (by omega) acc' a' h')
      refine ⟨hok _ _ _ h, ?_⟩
      rw [h1]
      exact h2
  have := key ds.length 0 (by omega) acc a h0
  rwa [List.drop_zero] at this
/-! ## Ends -/
theorem Ret.pre {a g : A} {Q : DQ} {d : D} (hb : D.bd a.length d) (q : Q d a) : Ret a Q d (a ++ g) := by
  refine ⟨a.length, Nat.le_refl _, by rw [List.length_append]; omega, fun i ao h => ?_, hb, ?_⟩
  · rw [List.take_left] at h; exact .inl h
  · rw [List.take_left]; exact q
theorem Ret.at {a a' : A} {Q : DQ} {d : D} (n : Nat) (h1 : a.length ≤ n) (h2 : n ≤ a'.length) (h3 : ∀ (i : Nat) (ao : AO), i < n → a'[i]? = some ao → a[i]? = some ao ∨ AO.bd n ao) (hb : D.bd n d) (q : Q d (a'.take n)) : Ret a Q d a' := by
  refine ⟨n, h1, h2, fun i ao h => ?_, hb, q⟩
  rw [List.getElem?_take] at h
  by_cases e : i < n
  · rw [if_pos e] at h; exact h3 i ao e h
  · rw [if_neg e] at h; cases h
theorem Ret.all {a a' : A} {Q : DQ} {d : D} (h1 : a.length ≤ a'.length) (h3 : ∀ (i : Nat) (ao : AO), a'[i]? = some ao → a[i]? = some ao ∨ AO.bd a'.length ao) (hb : D.bd a'.length d) (q : Q d a') : Ret a Q d a' :=
  Ret.at a'.length h1 (Nat.le_refl _) (fun i ao _ h => h3 i ao h) hb (by rw [List.take_length]; exact q)
theorem Ret.same {a : A} {Q : DQ} {d : D} (hb : D.bd a.length d) (q : Q d a) : Ret a Q d a := by
  have := Ret.pre (g := []) hb q
  rwa [List.append_nil] at this
theorem bds_all {n : Nat} : ∀ {ds : List D}, (∀ d ∈ ds, D.bd n d) → D.bds n ds
  | [], _ => True.intro
  | d :: ds, h => ⟨h d List.mem_cons_self, bds_all fun d h' => h d (List.mem_cons_of_mem _ h')⟩
theorem bds_ints {n : Nat} {xs : List Int} : D.bds n (xs.map D.int) := bds_all fun d h => by
  obtain ⟨x, _, rfl⟩ := List.mem_map.1 h; exact True.intro
/-! ## Views -/
theorem vwL_app {a g : A} {d : D} {ds : List D} (h : vwL a d = some ds) : vwL (a ++ g) d = some ds := by
  cases d <;> first | exact h | skip
  rename_i n
  simp only [vwL] at h ⊢
  cases e : a[n]? with
  | none => rw [e] at h; cases h
  | some ao =>
    rw [e] at h
    have hn : n < a.length := (List.getElem?_eq_some_iff.1 e).1
    rw [List.getElem?_append_left hn, e]
    exact h
theorem vwLT_of {a : A} {d : D} {ds : List D} (h : vwL a d = some ds) : vwLT a d = some ds := by
  cases d <;> first | exact h | cases h
theorem vwS_of {a : A} {d : D} {ds : List D} (h : vwL a d = some ds) : vwS a d = some ds := by
  cases d <;> first | exact h | cases h
theorem e_listV {a : A} {d : D} {ds : List D} {m : Bool} {Q : DQ} (h : vwL a d = some ds) : rListOf m d a Q = (Fits ds.length ∧ outL m ds a Q) := by
  unfold rListOf; rw [vwLT_of h]
theorem e_lenV {a : A} {d : D} {ds : List D} {Q : DQ} (h : vwL a d = some ds) : rLen d a Q = Q (.int ds.length) a := by
  cases d <;> first | (cases h; done) | skip
  · simp only [vwL] at h
    split at h <;> cases h
    exact e_lenO (by assumption)
  · cases h; rfl
theorem e_slV {a : A} {d : D} {ds : List D} {m : Bool} {Q : DQ} {lo hi : Option Int} (h : vwL a d = some ds) : rSl m d lo hi a Q = (Fits ds.length ∧ outL m (cutD ds lo hi) a Q) := by
  cases d <;> first | (cases h; done) | skip
  · simp only [vwL] at h
    split at h <;> cases h
    exact e_slO (by assumption)
  · cases h; rfl
/-- a list is gone through while its heap only grows -/
theorem seqV {a1 : A} {d : D} {ds : List D} {Q : ItD → A → Prop} (h : vwL a1 d = some ds) (q : ∀ ok : A → Prop, (∀ a', vwL a' d = some ds → ok a') → Q ⟨ds, ok⟩ a1) : goSeq d a1 Q := by
  unfold goSeq
  cases d <;> first | (cases h; done) | skip
  · rename_i n
    simp only [vwL] at h
    split at h <;> cases h
    rename_i e
    dsimp only
    rw [e]
    dsimp only
    refine q _ fun a' h' => ?_
    simp only [vwL] at h'
    split at h' <;> cases h'
    assumption
  · cases h
    exact q _ fun _ _ => True.intro
theorem Fits.of {n m : Nat} (h : Fits n) (hm : m ≤ n) : Fits m := ⟨Nat.le_trans hm h.le⟩
theorem fits_small {n : Nat} (h : n ≤ 2 ^ 20) : Fits n := ⟨Nat.le_trans h (by decide)⟩
theorem getA {a g : A} {m : Nat} : (a ++ g)[a.length + m]? = g[m]? := by rw [List.getElem?_append_right (by omega)]; congr 1; omega
theorem setA {a g : A} {m : Nat} {x : AO} : (a ++ g).set (a.length + m) x = a ++ g.set m x := by rw [List.set_append_right _ _ (by omega)]; congr 2; omega
theorem setB {a g : A} {n : Nat} {x : AO} (h : n < a.length) : (a ++ g).set n x = a.set n x ++ g := List.set_append_left _ _ h
theorem take_snoc {α : Type} {l : List α} {i : Nat} {x : α} (h : l[i]? = some x) : l.take (i + 1) = l.take i ++ [x] := by
  obtain ⟨hi, e⟩ := List.getElem?_eq_some_iff.1 h
  rw [List.take_succ_eq_append_getElem hi, e]
theorem map_get {α : Type} {f : α → D} {l : List α} {i : Nat} {d : D} (h : (l.map f)[i]? = some d) : ∃ s, l[i]? = some s ∧ d = f s := by
  rw [List.getElem?_map] at h
  cases e : l[i]? with
  | none => rw [e] at h; cases h
  | some s => rw [e] at h; cases h; exact ⟨s, rfl, rfl⟩
/-! ## isinstance -/
section
variable {a : A} {Q : DQ} {d : D} {T T' : String} {b : Bool} {x : Int} {p : Str} {ds : List D} {n : Nat}
theorem e_isi1 : rIsi d (.raw (.ty T)) a Q = match tyName a d with | some n => (match kitB n T with | some b => Q (.bl b) a | none => False) | none => False := rfl
theorem e_isi2 : rIsi d (.tup [.raw (.ty T), .raw (.ty T')]) a Q = match tyName a d with | some n => (match kitB n T, kitB n T' with | some b, some b' => Q (.bl (b || b')) a | _, _ => False) | none => False := rfl
theorem e_tyN : tyName a .non = some "NoneType" := rfl
theorem e_tyB : tyName a (.bl b) = some "bool" := rfl
theorem e_tyI : tyName a (.int x) = some "int" := rfl
theorem e_tyS : tyName a (.str p) = some "str" := rfl
theorem e_tyL : tyName a (.lst ds) = some "list" := rfl
theorem e_tyT : tyName a (.tup ds) = some "tuple" := rfl
theorem e_tyKT : tyName a (.ktup ds) = some "tuple" := rfl
theorem tyV (h : vwL a d = some ds) : tyName a d = some "list" := by
  cases d <;> first | (cases h; done) | skip
  · simp only [vwL] at h
    split at h <;> cases h
    rename_i e
    simp only [tyName, e]
  · rfl
theorem e_k_NoneType_int : kitB "NoneType" "int" = some false := by decide +kernel
theorem e_k_NoneType_bool : kitB "NoneType" "bool" = some false := by decide +kernel
theorem e_k_NoneType_str : kitB "NoneType" "str" = some false := by decide +kernel
theorem e_k_NoneType_list : kitB "NoneType" "list" = some false := by decide +kernel
theorem e_k_NoneType_tuple : kitB "NoneType" "tuple" = some false := by decide +kernel
theorem e_k_NoneType_dict : kitB "NoneType" "dict" = some false := by decide +kernel
theorem e_k_bool_int : kitB "bool" "int" = some true := by decide +kernel
theorem e_k_bool_bool : kitB "bool" "bool" = some true := by decide +kernel
theorem e_k_bool_str : kitB "bool" "str" = some false := by decide +kernel
theorem e_k_bool_list : kitB "bool" "list" = some false := by decide +kernel
theorem e_k_bool_tuple : kitB "bool" "tuple" = some false := by decide +kernel
theorem e_k_bool_dict : kitB "bool" "dict" = some false := by decide +kernel
theorem e_k_int_int : kitB "int" "int" = some true := by decide +kernel
theorem e_k_int_bool : kitB "int" "bool" = some false := by decide +kernel
theorem e_k_int_str : kitB "int" "str" = some false := by decide +kernel
theorem e_k_int_list : kitB "int" "list" = some false := by decide +kernel
theorem e_k_int_tuple : kitB "int" "tuple" = some false := by decide +kernel
theorem e_k_int_dict : kitB "int" "dict" = some false := by decide +kernel
theorem e_k_str_int : kitB "str" "int" = some false := by decide +kernel
theorem e_k_str_bool : kitB "str" "bool" = some false := by decide +kernel
theorem e_k_str_str : kitB "str" "str" = some true := by decide +kernel
theorem e_k_str_list : kitB "str" "list" = some false := by decide +kernel
theorem e_k_str_tuple : kitB "str" "tuple" = some false := by decide +kernel
theorem e_k_str_dict : kitB "str" "dict" = some false := by decide +kernel
theorem e_k_list_int : kitB "list" "int" = some false := by decide +kernel
theorem e_k_list_bool : kitB "list" "bool" = some false := by decide +kernel
theorem e_k_list_str : kitB "list" "str" = some false := by decide +kernel
theorem e_k_list_list : kitB "list" "list" = some true := by decide +kernel
theorem e_k_list_tuple : kitB "list" "tuple" = some false := by decide +kernel
theorem e_k_list_dict : kitB "list" "dict" = some false := by decide +kernel
theorem e_k_tuple_int : kitB "tuple" "int" = some false := by decide +kernel
theorem e_k_tuple_bool : kitB "tuple" "bool" = some false := by decide +kernel
theorem e_k_tuple_str : kitB "tuple" "str" = some false := by decide +kernel
theorem e_k_tuple_list : kitB "tuple" "list" = some false := by decide +kernel
theorem e_k_tuple_tuple : kitB "tuple" "tuple" = some true := by decide +kernel
theorem e_k_tuple_dict : kitB "tuple" "dict" = some false := by decide +kernel
theorem e_k_dict_int : kitB "dict" "int" = some false := by decide +kernel
theorem e_k_dict_bool : kitB "dict" "bool" = some false := by decide +kernel
theorem e_k_dict_str : kitB "dict" "str" = some false := by decide +kernel
theorem e_k_dict_list : kitB "dict" "list" = some false := by decide +kernel
theorem e_k_dict_tuple : kitB "dict" "tuple" = some false := by decide +kernel
theorem e_k_dict_dict : kitB "dict" "dict" = some true := by decide +kernel
end
/-! ## Comprehensions that only make values -/
theorem lcW_map {ok : A → Prop} {g : Tg} {tt : TT'} {te : TE'} {ρ : En} {Q : List D → A → Prop} {ds acc : List D} {a : A} (f : D → D) (hok : ok a)
    (h : ∀ d ∈ ds, ∀ (n : Nat) (M : D → A → Prop), M (f d) a → ∃ ρ', g.put d ρ = some ρ' ∧ tt ρ' a fun b a1 => if b = true then te ρ' a1 M else False)
    (hm : ∀ (ρ' : En) (a : A) (R R' : Bool → A → Prop), (∀ b a, R b a → R' b a) → tt ρ' a R → tt ρ' a R') (hf : Fits (acc.length + ds.length)) (hQ : Q (acc ++ ds.map f) a) : lcW ok g tt te ρ Q ds acc a := by
  refine lcW_inv (I := fun i acc' a' => a' = a ∧ acc' = acc ++ (ds.take i).map f) ?_ ?_ ?_ ⟨rfl, by simp⟩
  · rintro i acc' a' ⟨rfl, rfl⟩; exact hok
  · rintro i d acc' a' M hd ⟨rfl, rfl⟩ hM
    have hi : i < ds.length := (List.getElem?_eq_some_iff.1 hd).1
    obtain ⟨ρ', h1, h2⟩ := h d (List.mem_of_getElem? hd) 0 (fun r a2 => Fits ((acc ++ (ds.take i).map f).length + 1) ∧ M ((acc ++ (ds.take i).map f) ++ [r]) a2)
      ⟨hf.of (by simp only [List.length_append, List.length_map, List.length_take]; omega), hM _ _ ⟨rfl, by rw [take_snoc hd, List.map_append, List.append_assoc]; rfl⟩⟩
    refine ⟨ρ', h1, hm _ _ _ _ (fun b a h => ?_) h2⟩
    cases b with
    | true => rw [if_pos rfl] at h ⊢; exact h
    | false => rw [if_neg Bool.false_ne_true] at h; exact h.elim
  · rintro acc' a' ⟨rfl, rfl⟩
    rw [List.take_length]; exact hQ
theorem yes_mono (ρ' : En) (a : A) (R R' : Bool → A → Prop) (h : ∀ b a, R b a → R' b a) (q : wYes ρ' a R) : wYes ρ' a R' := h _ _ q
/-! ## Entries that keep within bounds -/
def Gd (a : A) (N : Nat) (b : A) : Prop := ∀ (i : Nat) (ao : AO), b[i]? = some ao → a[i]? = some ao ∨ AO.bd N ao
theorem Gd.refl {a : A} {N : Nat} : Gd a N a := fun i ao h => .inl h
theorem Gd.set {a b : A} {N n : Nat} {x : AO} (h : Gd a N b) (hx : AO.bd N x) : Gd a N (b.set n x) := fun i ao e => by
  rw [List.getElem?_set] at e
  split at e
  · split at e
    · cases e; exact .inr hx
    · cases e
  · exact h i ao e
theorem Gd.app {a b g : A} {N : Nat} (h : Gd a N b) (hx : ∀ ao ∈ g, AO.bd N ao) : Gd a N (b ++ g) := fun i ao e => by
  by_cases hi : i < b.length
  · rw [List.getElem?_append_left hi] at e; exact h i ao e
  · rw [List.getElem?_append_right (by omega)] at e
    exact .inr (hx ao (List.mem_of_getElem? e))
theorem Gd.app1 {a b : A} {N : Nat} {x : AO} (h : Gd a N b) (hx : AO.bd N x) : Gd a N (b ++ [x]) := h.app fun ao e => by rw [List.mem_singleton.1 e]; exact hx
theorem Ret.gd {a a' : A} {Q : DQ} {d : D} (h1 : a.length ≤ a'.length) (h3 : Gd a a'.length a') (hb : D.bd a'.length d) (q : Q d a') : Ret a Q d a' := Ret.all h1 h3 hb q
theorem cut_take {ds : List D} {c : Int} (h : 0 ≤ c) : DW.cutD ds none (some c) = ds.take c.toNat := by
  unfold DW.cutD
  rw [HT.sIx_none, List.drop_zero]
  show ds.take ((if c < 0 then (c + (ds.length : Int)).toNat else min c.toNat ds.length) - 0) = _
  rw [if_neg (by omega), Nat.sub_zero]
  by_cases e : c.toNat ≤ ds.length
  · rw [Nat.min_eq_left e]
  · rw [Nat.min_eq_right (by omega), List.take_length, List.take_of_length_le (by omega)]
theorem atI_intN {xs : List Int} {j : Nat} (hi : j < xs.length) : L2.atI (xs.map D.int) (j : Int) = some (.int xs[j]) :=
  L2.atI_nat (by rw [List.getElem?_map]; simp [List.getElem?_eq_getElem hi])
theorem atI_int {xs : List Int} {i : Int} (h0 : 0 ≤ i) (h1 : i < xs.length) : ∃ v, L2.atI (xs.map D.int) i = some (.int v) ∧ xs[i.toNat]? = some v := by
  obtain ⟨j, rfl⟩ : ∃ j : Nat, i = j := ⟨i.toNat, by omega⟩
  have hi : j < xs.length := by omega
  exact ⟨xs[j], atI_intN hi, by rw [Int.toNat_natCast]; exact List.getElem?_eq_getElem hi⟩
theorem e_ixV {a : A} {d : D} {ds : List D} {x : Int} {Q : DQ} (h : vwL a d = some ds) : rIx d (.int x) a Q = match L2.atI ds x with | some d => Q d a | none => False := by
  cases d <;> first | (cases h; done) | skip
  · simp only [vwL] at h
    split at h <;> cases h
    exact e_ixO (by assumption)
  · cases h; rfl
theorem rngD_get {n i : Nat} {d : D} {lo : Int} (h : (rngD lo n)[i]? = some d) : d = .int (lo + i) ∧ i < n := by
  unfold rngD at h
  rw [List.getElem?_map] at h
  by_cases hi : i < n
  · rw [List.getElem?_range hi] at h
    cases h; exact ⟨rfl, hi⟩
  · rw [List.getElem?_eq_none (by rw [List.length_range]; omega)] at h; cases h
theorem rngD_len {n : Nat} {lo : Int} : (rngD lo n).length = n := by unfold rngD; rw [List.length_map, List.length_range]
theorem pyFs_ints : ∀ (xs : List Int), pyFs (xs.map D.int) = some (xs.map PyData.int)
  | [] => rfl
  | x :: xs => by show (match some (PyData.int x) with | none => none | some p => (pyFs (xs.map D.int)).map (p :: ·)) = _; rw [pyFs_ints xs]; rfl
theorem eqvAll_ints : ∀ (xs ys : List Int), PyData.eqvAll (xs.map PyData.int) (ys.map PyData.int) = decide (xs = ys)
  | [], [] => rfl
  | x :: xs, [] => rfl
  | [], y :: ys => rfl
  | x :: xs, y :: ys => by
    show (x == y && PyData.eqvAll (xs.map PyData.int) (ys.map PyData.int)) = _
    rw [eqvAll_ints xs ys]
    by_cases h1 : x = y <;> by_cases h2 : xs = ys <;> simp [h1, h2]
theorem shaped_ints (xs : List Int) : SeqAt.shaped (.list (xs.map PyData.int)) = true := by
  have h1 : ∀ xs : List Int, PyData.canLayAll0 (xs.map PyData.int) = true := fun xs => by
    induction xs with
    | nil => rfl
    | cons x xs ih => exact ih
  have h2 : ∀ xs : List Int, PyData.depthAll (xs.map PyData.int) = 0 := fun xs => by
    induction xs with
    | nil => rfl
    | cons x xs ih => show max 0 (PyData.depthAll (xs.map PyData.int)) = 0; rw [ih]; rfl
  show (PyData.canLayAll0 (xs.map PyData.int) && decide (PyData.depthAll (xs.map PyData.int) + 1 ≤ 64)) = true
  rw [h1, h2]
  decide
theorem pyOf_ints {a : A} {d : D} {xs : List Int} (h : vwL a d = some (xs.map D.int)) : pyOf a d = some (.list (xs.map PyData.int)) ∧ flatD d = false := by
  cases d <;> first | (cases h; done) | skip
  · simp only [vwL] at h
    split at h <;> cases h
    rename_i e
    refine ⟨?_, rfl⟩
    simp only [pyOf, e, pyFs_ints]
    rfl
  · cases h
    refine ⟨?_, rfl⟩
    show (pyFs (xs.map D.int)).map PyData.list = _
    rw [pyFs_ints]; rfl
theorem eqD_ints {a : A} {d e : D} {xs ys : List Int} (h : vwL a d = some (xs.map D.int)) (h' : vwL a e = some (ys.map D.int)) : eqD a d e = some (decide (xs = ys)) := by
  obtain ⟨p1, f1⟩ := pyOf_ints h
  obtain ⟨p2, f2⟩ := pyOf_ints h'
  unfold eqD eqP
  rw [f1, p1, p2]
  dsimp only
  rw [shaped_ints, shaped_ints]
  show some (PyData.eqvAll _ _) = _
  rw [eqvAll_ints]
theorem e_eqV {a : A} {d e : D} {xs ys : List Int} {Q : DQ} (h : vwL a d = some (xs.map D.int)) (h' : vwL a e = some (ys.map D.int)) : DW.rEq d e a Q = Q (.bl (decide (xs = ys))) a := by
  unfold DW.rEq; rw [eqD_ints h h']
theorem e_neV {a : A} {d e : D} {xs ys : List Int} {Q : DQ} (h : vwL a d = some (xs.map D.int)) (h' : vwL a e = some (ys.map D.int)) : DW.rNe d e a Q = Q (.bl (!decide (xs = ys))) a := by
  unfold DW.rNe; rw [eqD_ints h h']
theorem cmulR {i j : Int} (h : -(2 ^ 64) < j ∧ j < 2 ^ 64) : CMul i j := .inr h
theorem cmulL {i j : Int} (h : -(2 ^ 64) < i ∧ i < 2 ^ 64) : CMul i j := .inl h
/-- the law's call -/
theorem entry {K : PySem.W.Frag} {ca : Ci} {S : WSp} {H : Hp} {a : Addr} {ns : List Int} {E : XK} (hS : SqL K H a (ns.map V.int)) (hs : S [.scr ns] [] (fun d _ => d = .bl true) noX) : spD K ca S [.ref a] H (fun v _ => v = .bl true) E := by
  refine ⟨⟨H, fun _ => 0, 0, fun _ => none⟩, [], [.scr ns], _, noX, ⟨rfl, fun a o h => h, (fun n ao h => by cases h), (fun n ao h => by cases h), (fun n h => absurd h (Nat.not_lt_zero _)), (fun m n h => absurd h (Nat.not_lt_zero _)), (fun b o h => by cases h)⟩,
    .cons ⟨a, rfl, hS⟩ .nil, hs, fun v H' W' A' d l R r q => ?_, .no⟩
  subst q
  exact r
end DW
set_option Elab.async false
set_option linter.all false
set_option maxRecDepth 100000
set_option maxHeartbeats 1000000
namespace K9
open PySem PySem.Spec PyProof.Rows L2 DW
def top (i : Nat) : Stmt := PySem.Challenge.pw_chipwhole_k09_files_keep_a_beginning.main.body.getD i (.Pass ⟨0, 0, 0, 0⟩)
abbrev st__applied : Stmt := top 1
abbrev st_File___init__ : Stmt := inClass (top 2) 0
abbrev st_File_write : Stmt := inClass (top 2) 1
abbrev st_File_shorten : Stmt := inClass (top 2) 2
abbrev st_File_lose : Stmt := inClass (top 2) 6
abbrev st_File_flush : Stmt := inClass (top 2) 3
abbrev st_File_content : Stmt := inClass (top 2) 4
abbrev st_File_pending : Stmt := inClass (top 2) 5
abbrev st__law_mix : Stmt := top 4
abbrev st__law_draws : Stmt := top 5
abbrev st__law_at : Stmt := top 6
abbrev st__law_is_integer : Stmt := top 7
abbrev st__law_same : Stmt := top 8
abbrev st__law_next : Stmt := top 9
abbrev st__law_after : Stmt := top 10
abbrev st__law_deed : Stmt := top 11
abbrev st__applied_M : Stmt := top 1
abbrev st_File_content_M : Stmt := inClass (top 2) 4
abbrev st_law : Stmt := top 12
def nmI : Nat → List Str
  | 0 => ["_lasting", "_steps"]
  | _ => []
def clI : Nat → Str
  | 0 => "File"
  | _ => ""
def cI (K : PySem.W.Frag) : Ci := ⟨fun n => He.ga K (clI n), nmI⟩
theorem nd_0 : (nmI 0).Nodup := by decide +kernel
structure Tab (K : PySem.W.Frag) (mg : Str → Option Value) : Prop where
  self_ : True
  b_bool : mg "bool" = none
  b_int : mg "int" = none
  b_isinstance : mg "isinstance" = none
  b_len : mg "len" = none
  b_list : mg "list" = none
  b_min : mg "min" = none
  b_range : mg "range" = none
  b_str : mg "str" = none
  b_tuple : mg "tuple" = none
  cl_0 : Cls K ((cI K).ad 0)
  na_0_0 : NoAttr K ((cI K).ad 0) "_lasting"
  na_0_1 : NoAttr K ((cI K).ad 0) "_steps"

/-! ## What the defs promise -/
inductive Stp where | app (b : Int) | cut (n : Int)
def encF : Stp → D
  | .app b => .tup [.str "append", .int b]
  | .cut n => .tup [.str "truncate", .int n]
def encL : Stp → D
  | .app b => .tup [.int 0, .int b]
  | .cut n => .tup [.int 1, .int n]
def dI (xs : List Int) : List D := xs.map D.int
def cutI (xs : List Int) (n : Int) : List Int := (xs.drop (HT.sIx xs.length 0 none)).take (HT.sIx xs.length xs.length (some n) - HT.sIx xs.length 0 none)
def step (d : List Int) : Stp → List Int
  | .app b => d ++ [b]
  | .cut n => cutI d n
def runS (d : List Int) (ss : List Stp) : List Int := ss.foldl step d
/-- a file: what lasts, the steps behind (at the loc k) -/
def FileAt (a : A) (n k : Nat) (ls : List Int) (ss : List Stp) : Prop := a[n]? = some (.obj 0 [.lst (dI ls), .loc k]) ∧ a[k]? = some (.lst (ss.map encF)) ∧ n ≠ k
def StAt (a : A) (n : Nat) : Prop := ∃ (ms : List Int) (i : Int), a[n]? = some (.lst [.lst (dI ms), .int i]) ∧ 0 ≤ i
def S__applied : WSp := fun vs a Q _ => ∃ d1 d2 xs ss, vs = [d1, d2] ∧ vwL a d1 = some (dI xs) ∧ vwL a d2 = some (ss.map encF) ∧ Fits (xs.length + ss.length) ∧ Q (.lst (dI (runS xs ss))) a
def S__applied_M : WSp := fun vs a Q _ => ∃ d1 d2 xs ss, vs = [d1, d2] ∧ vwL a d1 = some (dI xs) ∧ vwL a d2 = some (ss.map encF) ∧ Fits (xs.length + ss.length) ∧ ∀ (g : A) (m : Nat), g[m]? = some (.lst (dI (runS xs ss))) → (∀ ao ∈ g, ∃ zs, ao = .lst (dI zs)) → Q (.loc (a.length + m)) (a ++ g)
def S_File___init__ : WSp := fun vs a Q _ => ∃ n, vs = [.loc n] ∧ a[n]? = some (.obj 0 []) ∧ Q .non (a.set n (.obj 0 [.lst (dI []), .loc a.length]) ++ [.lst []])
def limOk : D → Prop
  | .non => True
  | .int l => 0 ≤ l
  | _ => False
def limN (n : Nat) : D → Nat
  | .int l => min l.toNat n
  | _ => n
def S_File_write : WSp := fun vs a Q _ => ∃ n k ls ss d xs l, vs = [.loc n, d, l] ∧ FileAt a n k ls ss ∧ vwL a d = some (dI xs) ∧ limOk l ∧ Fits (ss.length + xs.length) ∧ Q (.int (limN xs.length l)) (a.set k (.lst ((ss ++ (xs.take (limN xs.length l)).map Stp.app).map encF)))
def S_File_shorten : WSp := fun vs a Q _ => ∃ n k ls ss z l, vs = [.loc n, .int z, l] ∧ FileAt a n k ls ss ∧ limOk l ∧ Fits (ss.length + 1) ∧ (l = .int 0 → Q (.int 0) a) ∧ (l ≠ .int 0 → Q (.int 1) (a.set k (.lst ((ss ++ [Stp.cut z]).map encF))))
def lost (a : A) (n : Nat) (ls : List Int) : A := a.set n (.obj 0 [.lst (dI ls), .loc a.length]) ++ [.lst []]
def S_File_lose : WSp := fun vs a Q _ => ∃ n k ls ss c, vs = [.loc n, .int c] ∧ FileAt a n k ls ss ∧ 0 ≤ c ∧ Fits (ls.length + ss.length) ∧ Q .non (lost a n (runS ls (ss.take c.toNat)))
def S_File_flush : WSp := fun vs a Q _ => ∃ n k ls ss l, vs = [.loc n, l] ∧ FileAt a n k ls ss ∧ limOk l ∧ Fits (ls.length + ss.length) ∧ (l = .int 0 → Q (.int 0) a) ∧ (l ≠ .int 0 → Q (.int 1) (lost a n (runS ls ss)))
def S_File_content : WSp := fun vs a Q _ => ∃ n k ls ss, vs = [.loc n] ∧ FileAt a n k ls ss ∧ Fits (ls.length + ss.length) ∧ Q (.lst (dI (runS ls ss))) a
def S_File_content_M : WSp := fun vs a Q _ => ∃ n k ls ss, vs = [.loc n] ∧ FileAt a n k ls ss ∧ Fits (ls.length + ss.length) ∧ ∀ (g : A) (m : Nat), g[m]? = some (.lst (dI (runS ls ss))) → (∀ ao ∈ g, ∃ zs, ao = .lst (dI zs)) → Q (.loc (a.length + m)) (a ++ g)
def S_File_pending : WSp := fun vs a Q _ => ∃ n k ls ss, vs = [.loc n] ∧ FileAt a n k ls ss ∧ Q (.int ss.length) a
def S__law_mix : WSp := fun vs a Q _ => ∃ c k : Int, vs = [.int c, .int k] ∧ ∀ v : Int, Q (.int v) a
def S__law_draws : WSp := fun vs a Q _ => ∃ ns : List Int, vs = [.scr ns] ∧ ∀ ms : List Int, Q (.lst (dI ms)) a
def S__law_at : WSp := fun vs a Q _ => ∃ (ms : List Int) (i : Int), vs = [.lst (dI ms), .int i] ∧ 0 ≤ i ∧ ∀ v : Int, Q (.int v) a
def S__law_is_integer : WSp := fun vs a Q _ => ∃ i : Int, vs = [.int i] ∧ Q (.bl true) a
def S__law_same : Nat → WSp
  | 0 => fun _ _ _ _ => False
  | n + 1 => fun vs a Q _ => (∃ i : Int, vs = [.int i, .int i] ∧ Q (.bl true) a) ∨ (0 < n ∧ ∃ d xs, vs = [d, .lst (dI xs)] ∧ vwL a d = some (dI xs) ∧ xs.length < 2 ^ 62 ∧ Q (.bl true) a)
def S__law_next : WSp := fun vs a Q _ => ∃ (n : Nat) (L : Int), vs = [.loc n, .int L] ∧ StAt a n ∧ 0 < L ∧ ∀ (v : Int) (ms : List Int) (i : Int), 0 ≤ v → v < L → 0 ≤ i → Q (.int v) (a.set n (.lst [.lst (dI ms), .int i]))
def S__law_after : WSp := fun vs a Q _ => ∃ xs ss, vs = [.lst (dI xs), .lst (ss.map encL)] ∧ Fits (xs.length + ss.length) ∧ Q (.lst (dI (runS xs ss))) a
/-- behind a deed: the other locs stay -/
structure Deed (a a' : A) (n f k k' : Nat) : Prop where
  st : StAt a' n
  len : a.length ≤ a'.length
  fr : ∀ m, m < a.length → m ≠ n → m ≠ f → m ≠ k → a'[m]? = a[m]?
  k' : k' = k ∨ a.length ≤ k'
def S__law_deed : WSp := fun vs a Q _ => ∃ n f k ls ss, vs = [.loc n, .loc f, .lst (dI ls), .lst (ss.map encL)] ∧ StAt a n ∧ FileAt a f k ls ss ∧ n ≠ f ∧ n ≠ k ∧ ls.length + ss.length ≤ 10000 ∧ (∀ s ∈ ss, match s with | .cut z => 0 ≤ z | _ => True) ∧
  ∀ a' ls' ss' k', Deed a a' n f k k' → FileAt a' f k' ls' ss' → ls'.length + ss'.length ≤ ls.length + ss.length + 60 → (∀ s ∈ ss', match s with | .cut z => 0 ≤ z | _ => True) → Q (.lst [.bl true, .lst (dI ls'), .lst (ss'.map encL)]) a'
def S_law : WSp := fun vs a Q _ => ∃ ns : List Int, vs = [.scr ns] ∧ a = [] ∧ ns.length ≤ 63 ∧ ∀ a', Q (.bl true) a'
def t__applied : TS' :=
  (sSeq (sSet 2 (wN (R1 (rListOf true)) (wCons (wVar 0) wNil)))
  (sSeq (sFor (iSeq (wVar 1)) (.tp [.nm 3, .nm 4])
  (sIf (wTest (wOp rEq (wVar 3) (wC (.str "append"))))
  (sExp (wBM .list rAppend (wVar 2) (wCons (wVar 4) wNil)))
  (sSet 2 (wSl true (wVar 2) wNoPart (wPart (wVar 4))))))
  (sRet (wFrz (wVar 2)))))

def t_File___init__ : TS' :=
  (sSeq (sFld 0 0 (wLst wNil) (wVar 0))
  (sFld 0 1 (wLstM wNil) (wVar 0)))

def t_File_write : TS' :=
  (sSeq (sSet 3 (wIf (wTest (wOp rIsN (wVar 2) (wC .non))) (wN (R1 rLen) (wCons (wVar 1) wNil)) (wN (R2' rMin2) (wCons (wVar 2) (wCons (wN (R1 rLen) (wCons (wVar 1) wNil)) wNil)))))
  (sSeq (sExp (wBM .list rExtend (wFld 0 1 (wVar 0)) (wCons (wLc false (iSeq (wSl false (wVar 1) wNoPart (wPart (wVar 3)))) (.nm 4) wYes (wTup (wCons (wC (.str "append")) (wCons (wVar 4) wNil))) [4]) wNil)))
  (sRet (wVar 3))))

def t_File_shorten : TS' :=
  (sSeq (sIf (wTest (wOp rEq (wVar 2) (wC (.int 0))))
  (sRet (wC (.int 0)))
  sNext)
  (sSeq (sExp (wBM .list rAppend (wFld 0 1 (wVar 0)) (wCons (wTup (wCons (wC (.str "truncate")) (wCons (wVar 1) wNil))) wNil)))
  (sRet (wC (.int 1)))))

def t_File_lose : TS' :=
  (sSeq (sFld 0 0 (wCall S__applied (wCons (wFld 0 0 (wVar 0)) (wCons (wSl false (wFld 0 1 (wVar 0)) wNoPart (wPart (wVar 1))) wNil))) (wVar 0))
  (sFld 0 1 (wLstM wNil) (wVar 0)))

def t_File_flush : TS' :=
  (sSeq (sIf (wTest (wOp rEq (wVar 1) (wC (.int 0))))
  (sRet (wC (.int 0)))
  sNext)
  (sSeq (sExp (wMeth 0 S_File_lose (wVar 0) (wCons (wN (R1 rLen) (wCons (wFld 0 1 (wVar 0)) wNil)) wNil)))
  (sRet (wC (.int 1)))))

def t_File_content : TS' :=
  (sRet (wCall S__applied (wCons (wFld 0 0 (wVar 0)) (wCons (wFld 0 1 (wVar 0)) wNil))))

def t_File_pending : TS' :=
  (sRet (wN (R1 rLen) (wCons (wFld 0 1 (wVar 0)) wNil)))

def t__law_mix : TS' :=
  (sSeq (sSet 2 (wOp rMod (wN (R1 rInt1) (wCons (wOp rAdd (wOp rAdd (wOp rMul (wN (R1 rInt1) (wCons (wVar 0) wNil)) (wC (.int 48271))) (wOp rMul (wVar 1) (wC (.int 69621)))) (wC (.int 12345))) wNil)) (wC (.int 2147483647))))
  (sSeq (sSet 2 (wOp rMod (wN (R1 rInt1) (wCons (wOp rAdd (wOp rAdd (wOp rMul (wVar 2) (wVar 2)) (wOp rMul (wVar 1) (wC (.int 40692)))) (wC (.int 1))) wNil)) (wC (.int 2147483399))))
  (sRet (wOp rMod (wOp rFdiv (wVar 2) (wC (.int 5))) (wC (.int 9973))))))

def t__law_draws : TS' :=
  (sSeq (sSet 1 (wLstM wNil))
  (sSeq (sFor (iRng1 (wCons (wN (R2' rMin2) (wCons (wC (.int 63)) (wCons (wN (R1 rLen) (wCons (wVar 0) wNil)) wNil))) wNil)) (.nm 2)
  (sSeq (sSet 3 (wN (R1 rInt1) (wCons (wOp rIx (wVar 0) (wVar 2)) wNil)))
  (sIf (wTest (wOp rLt (wVar 3) (wOp rPow (wC (.int 10)) (wC (.int 18)))))
  (sExp (wBM .list rAppend (wVar 1) (wCons (wCall S__law_mix (wCons (wVar 3) (wCons (wVar 2) wNil))) wNil)))
  (sFor (iRng1 (wCons (wC (.int 60)) wNil)) (.nm 4)
  (sIf (wTest (wOp rGt (wVar 3) (wC (.int 0))))
  (sSeq (sExp (wBM .list rAppend (wVar 1) (wCons (wOp rMod (wN (R1 rInt1) (wCons (wVar 3) wNil)) (wC (.int 9973))) wNil)))
  (sSet 3 (wOp rFdiv (wVar 3) (wC (.int 9973)))))
  sNext)))))
  (sRet (wFrz (wVar 1)))))

def t__law_at : TS' :=
  (sSeq (sIf (wTest (wOp rLt (wVar 1) (wN (R1 rLen) (wCons (wVar 0) wNil))))
  (sRet (wOp rIx (wVar 0) (wVar 1)))
  sNext)
  (sSeq (sIf (wTest (wOp rEq (wN (R1 rLen) (wCons (wVar 0) wNil)) (wC (.int 0))))
  (sRet (wCall S__law_mix (wCons (wVar 1) (wCons (wC (.int 77)) wNil))))
  sNext)
  (sRet (wCall S__law_mix (wCons (wOp rAdd (wOp rIx (wVar 0) (wOp rMod (wN (R1 rInt1) (wCons (wVar 1) wNil)) (wN (R1 rLen) (wCons (wVar 0) wNil)))) (wOp rMul (wVar 1) (wC (.int 131)))) (wCons (wVar 1) wNil))))))

def t__law_is_integer : TS' :=
  (sRet (wAndV (wN (R2' rIsi) (wCons (wVar 0) (wCons (wC (.raw (.ty "int"))) wNil))) (wNotV (wN (R2' rIsi) (wCons (wVar 0) (wCons (wC (.raw (.ty "bool"))) wNil))))))

def t__law_same (n : Nat) : TS' :=
  (sSeq (sIf (wTru (wN (R2' rIsi) (wCons (wVar 1) (wCons (wTup (wCons (wC (.raw (.ty "list"))) (wCons (wC (.raw (.ty "tuple"))) wNil))) wNil))))
  (sSeq (sIf (wOr (wTest (wOp rNe (wN (R2' rIsi) (wCons (wVar 1) (wCons (wC (.raw (.ty "list"))) wNil))) (wN (R2' rIsi) (wCons (wVar 0) (wCons (wC (.raw (.ty "list"))) wNil))))) (wTest (wOp rNe (wN (R2' rIsi) (wCons (wVar 1) (wCons (wC (.raw (.ty "tuple"))) wNil))) (wN (R2' rIsi) (wCons (wVar 0) (wCons (wC (.raw (.ty "tuple"))) wNil))))))
  (sRet (wC (.bl false)))
  sNext)
  (sSeq (sIf (wTest (wOp rNe (wN (R1 rLen) (wCons (wVar 0) wNil)) (wN (R1 rLen) (wCons (wVar 1) wNil))))
  (sRet (wC (.bl false)))
  sNext)
  (sSeq (sFor (iRng1 (wCons (wN (R1 rLen) (wCons (wVar 1) wNil)) wNil)) (.nm 2)
  (sIf (wNot (wTru (wCall (S__law_same n) (wCons (wOp rIx (wVar 0) (wVar 2)) (wCons (wOp rIx (wVar 1) (wVar 2)) wNil)))))
  (sRet (wC (.bl false)))
  sNext))
  (sRet (wC (.bl true))))))
  sNext)
  (sSeq (sIf (wTest (wOp rIsN (wVar 1) (wC .non)))
  (sRet (wOp rIsN (wVar 0) (wC .non)))
  sNext)
  (sSeq (sIf (wTru (wN (R2' rIsi) (wCons (wVar 1) (wCons (wC (.raw (.ty "bool"))) wNil))))
  (sRet (wAndV (wN (R2' rIsi) (wCons (wVar 0) (wCons (wC (.raw (.ty "bool"))) wNil))) (wOp rEq (wVar 0) (wVar 1))))
  sNext)
  (sSeq (sIf (wTru (wN (R2' rIsi) (wCons (wVar 1) (wCons (wC (.raw (.ty "int"))) wNil))))
  (sRet (wAndV (wCall S__law_is_integer (wCons (wVar 0) wNil)) (wOp rEq (wVar 0) (wVar 1))))
  sNext)
  (sRet (wAndV (wN (R2' rIsi) (wCons (wVar 0) (wCons (wC (.raw (.ty "str"))) wNil))) (wOp rEq (wVar 0) (wVar 1))))))))

def t__law_next : TS' :=
  (sSeq (sAugSub rAddI (wVar 0) (wC (.int 1)) (wC (.int 1)))
  (sRet (wOp rMod (wCall S__law_at (wCons (wOp rIx (wVar 0) (wC (.int 0))) (wCons (wOp rIx (wVar 0) (wC (.int 1))) wNil))) (wVar 1))))

def t__law_after : TS' :=
  (sSeq (sSet 0 (wN (R1 (rListOf true)) (wCons (wVar 0) wNil)))
  (sSeq (sFor (iSeq (wVar 1)) (.tp [.nm 2, .nm 3])
  (sIf (wTest (wOp rEq (wVar 2) (wC (.int 0))))
  (sExp (wBM .list rAppend (wVar 0) (wCons (wVar 3) wNil)))
  (sSet 0 (wSl true (wVar 0) wNoPart (wPart (wVar 3))))))
  (sRet (wFrz (wVar 0)))))

def t__law_deed : TS' :=
  (sSeq (sSet 4 (wCall S__law_next (wCons (wVar 0) (wCons (wC (.int 8)) wNil))))
  (sSeq (sSet 5 (wC .non))
  (sSeq (sIf (wTest (wOp rEq (wCall S__law_next (wCons (wVar 0) (wCons (wC (.int 3)) wNil))) (wC (.int 0))))
  (sSet 5 (wOp rIx (wLst (wCons (wCall S__law_next (wCons (wVar 0) (wCons (wC (.int 7)) wNil))) (wCons (wCall S__law_next (wCons (wVar 0) (wCons (wC (.int 60)) wNil))) wNil))) (wCall S__law_next (wCons (wVar 0) (wCons (wC (.int 2)) wNil)))))
  sNext)
  (sSeq (sIf (wTest (wOp rLt (wVar 4) (wC (.int 3))))
  (sSeq (sSet 7 (wLc false (iRng1 (wCons (wOp rAdd (wCall S__law_next (wCons (wVar 0) (wCons (wC (.int 10)) wNil))) (wOp rMul (wC (.int 50)) (wN (R1 rInt1) (wCons (wOp rEq (wCall S__law_next (wCons (wVar 0) (wCons (wC (.int 5)) wNil))) (wC (.int 0))) wNil)))) wNil)) (.nm 11) wYes (wCall S__law_next (wCons (wVar 0) (wCons (wC (.int 256)) wNil))) [11]))
  (sSeq (sSet 6 (wN (R1 rLen) (wCons (wVar 7) wNil)))
  (sSeq (sIf (wTest (wOp rIsNotN (wVar 5) (wC .non)))
  (sSet 6 (wN (R2' rMin2) (wCons (wVar 6) (wCons (wVar 5) wNil))))
  sNext)
  (sSeq (sSet 8 (wN (R1 (rListOf true)) (wCons (wVar 7) wNil)))
  (sSeq (sSet 9 (wMeth 0 S_File_write (wVar 1) (wCons (wVar 8) (wCons (wVar 5) wNil))))
  (sSeq (sIf (wTest (wOp rNe (wVar 8) (wVar 7)))
  (sRet (wLst (wCons (wC (.bl false)) (wCons (wVar 2) (wCons (wVar 3) wNil)))))
  sNext)
  (sSeq (sExp (wBM .list rInsert (wVar 8) (wCons (wC (.int 0)) (wCons (wC (.int 9)) wNil))))
  (sSeq (sExp (wBM .list rAppend (wVar 8) (wCons (wC (.int 9)) wNil)))
  (sRet (wLst (wCons (wCall (S__law_same 3) (wCons (wVar 9) (wCons (wVar 6) wNil))) (wCons (wVar 2) (wCons (wOp rAdd (wVar 3) (wLc false (iSeq (wSl false (wVar 7) wNoPart (wPart (wVar 6)))) (.nm 12) wYes (wTup (wCons (wC (.int 0)) (wCons (wVar 12) wNil))) [12])) wNil)))))))))))))
  sNext)
  (sSeq (sIf (wTest (wOp rLt (wVar 4) (wC (.int 5))))
  (sSeq (sSet 10 (wCall S__law_next (wCons (wVar 0) (wCons (wOp rAdd (wN (R1 rLen) (wCons (wCall S__law_after (wCons (wVar 2) (wCons (wVar 3) wNil))) wNil)) (wC (.int 3))) wNil))))
  (sSeq (sSet 9 (wMeth 0 S_File_shorten (wVar 1) (wCons (wVar 10) (wCons (wVar 5) wNil))))
  (sSeq (sIf (wTest (wOp rEq (wVar 5) (wC (.int 0))))
  (sRet (wLst (wCons (wCall (S__law_same 3) (wCons (wVar 9) (wCons (wC (.int 0)) wNil))) (wCons (wVar 2) (wCons (wVar 3) wNil)))))
  sNext)
  (sRet (wLst (wCons (wCall (S__law_same 3) (wCons (wVar 9) (wCons (wC (.int 1)) wNil))) (wCons (wVar 2) (wCons (wOp rAdd (wVar 3) (wLst (wCons (wTup (wCons (wC (.int 1)) (wCons (wVar 10) wNil))) wNil))) wNil))))))))
  sNext)
  (sSeq (sIf (wTest (wOp rLt (wVar 4) (wC (.int 7))))
  (sSeq (sSet 9 (wMeth 0 S_File_flush (wVar 1) (wCons (wVar 5) wNil)))
  (sSeq (sIf (wTest (wOp rEq (wVar 5) (wC (.int 0))))
  (sRet (wLst (wCons (wCall (S__law_same 3) (wCons (wVar 9) (wCons (wC (.int 0)) wNil))) (wCons (wVar 2) (wCons (wVar 3) wNil)))))
  sNext)
  (sRet (wLst (wCons (wCall (S__law_same 3) (wCons (wVar 9) (wCons (wC (.int 1)) wNil))) (wCons (wCall S__law_after (wCons (wVar 2) (wCons (wVar 3) wNil))) (wCons (wLst wNil) wNil)))))))
  sNext)
  (sSeq (sSet 6 (wCall S__law_next (wCons (wVar 0) (wCons (wOp rAdd (wN (R1 rLen) (wCons (wVar 3) wNil)) (wC (.int 3))) wNil))))
  (sSeq (sExp (wMeth 0 S_File_lose (wVar 1) (wCons (wVar 6) wNil)))
  (sRet (wLst (wCons (wC (.bl true)) (wCons (wCall S__law_after (wCons (wVar 2) (wCons (wSl false (wVar 3) wNoPart (wPart (wVar 6))) wNil))) (wCons (wLst wNil) wNil)))))))))))))

def t__applied_M : TS' :=
  (sSeq (sSet 2 (wN (R1 (rListOf true)) (wCons (wVar 0) wNil)))
  (sSeq (sFor (iSeq (wVar 1)) (.tp [.nm 3, .nm 4])
  (sIf (wTest (wOp rEq (wVar 3) (wC (.str "append"))))
  (sExp (wBM .list rAppend (wVar 2) (wCons (wVar 4) wNil)))
  (sSet 2 (wSl true (wVar 2) wNoPart (wPart (wVar 4))))))
  (sRet (wVar 2))))

def t_File_content_M : TS' :=
  (sRet (wCall S__applied_M (wCons (wFld 0 0 (wVar 0)) (wCons (wFld 0 1 (wVar 0)) wNil))))

def t_law : TS' :=
  (sSeq (sSet 1 (wLstM (wCons (wCall S__law_draws (wCons (wVar 0) wNil)) (wCons (wC (.int 20)) wNil))))
  (sSeq (sSet 2 (wMake 0 S_File___init__ wNil))
  (sSeq (sSet 3 (wLst wNil))
  (sSeq (sSet 4 (wLst wNil))
  (sSeq (sSet 5 (wMake 0 S_File___init__ wNil))
  (sSeq (sSet 6 (wMake 0 S_File___init__ wNil))
  (sSeq (sExp (wMeth 0 S_File_write (wVar 6) (wCons (wLst (wCons (wC (.int 1)) (wCons (wC (.int 2)) wNil))) (wCons (wC .non) wNil))))
  (sSeq (sExp (wMeth 0 S_File_flush (wVar 6) (wCons (wC .non) wNil)))
  (sSeq (sExp (wMeth 0 S_File_write (wVar 6) (wCons (wLst (wCons (wC (.int 3)) wNil)) (wCons (wC .non) wNil))))
  (sSeq (sFor (iRng1 (wCons (wCall S__law_next (wCons (wVar 1) (wCons (wC (.int 31)) wNil))) wNil)) (.nm 7)
  (sSeq (sIf (wTest (wOp rEq (wCall S__law_next (wCons (wVar 1) (wCons (wC (.int 6)) wNil))) (wC (.int 0))))
  (sSeq (sExp (wMeth 0 S_File_write (wVar 5) (wCons (wLst (wCons (wVar 7) (wCons (wOp rAdd (wVar 7) (wC (.int 1))) (wCons (wOp rAdd (wVar 7) (wC (.int 2))) wNil)))) (wCons (wC .non) wNil))))
  (sSeq (sIf (wOr (wNot (wTru (wCall (S__law_same 3) (wCons (wMeth 0 S_File_content (wVar 5) wNil) (wCons (wLst (wCons (wVar 7) (wCons (wOp rAdd (wVar 7) (wC (.int 1))) (wCons (wOp rAdd (wVar 7) (wC (.int 2))) wNil)))) wNil))))) (wNot (wTru (wCall (S__law_same 3) (wCons (wMeth 0 S_File_pending (wVar 5) wNil) (wCons (wC (.int 3)) wNil))))))
  (sRet (wC (.bl false)))
  sNext)
  (sSeq (sSet 5 (wMake 0 S_File___init__ wNil))
  (sIf (wOr (wTest (wOp rNe (wMeth 0 S_File_content (wVar 5) wNil) (wLst wNil))) (wNot (wTru (wCall (S__law_same 3) (wCons (wMeth 0 S_File_pending (wVar 5) wNil) (wCons (wC (.int 0)) wNil))))))
  (sRet (wC (.bl false)))
  sNext))))
  sNext)
  (sSeq (sAsg (.ul [.nm 8, .nm 3, .nm 4]) (wCall S__law_deed (wCons (wVar 1) (wCons (wVar 2) (wCons (wVar 3) (wCons (wVar 4) wNil))))))
  (sSeq (sIf (wOr (wNot (wTru (wVar 8))) (wNot (wTru (wCall (S__law_same 3) (wCons (wMeth 0 S_File_content (wVar 2) wNil) (wCons (wCall S__law_after (wCons (wVar 3) (wCons (wVar 4) wNil))) wNil))))))
  (sRet (wC (.bl false)))
  sNext)
  (sSeq (sIf (wNot (wTru (wCall (S__law_same 3) (wCons (wMeth 0 S_File_pending (wVar 2) wNil) (wCons (wN (R1 rLen) (wCons (wVar 4) wNil)) wNil)))))
  (sRet (wC (.bl false)))
  sNext)
  (sSeq (sExp (wBM .list rAppend (wMeth 0 S_File_content_M (wVar 2) wNil) (wCons (wC (.int 7)) wNil)))
  (sIf (wAnd (wTest (wOp rEq (wCall S__law_next (wCons (wVar 1) (wCons (wC (.int 4)) wNil))) (wC (.int 0)))) (wNot (wTru (wCall (S__law_same 3) (wCons (wMeth 0 S_File_content (wVar 2) wNil) (wCons (wCall S__law_after (wCons (wVar 3) (wCons (wVar 4) wNil))) wNil))))))
  (sRet (wC (.bl false)))
  sNext)))))))
  (sSeq (sExp (wMeth 0 S_File_lose (wVar 2) (wCons (wC (.int 0)) wNil)))
  (sSeq (sIf (wOr (wNot (wTru (wCall (S__law_same 3) (wCons (wMeth 0 S_File_content (wVar 6) wNil) (wCons (wLst (wCons (wC (.int 1)) (wCons (wC (.int 2)) (wCons (wC (.int 3)) wNil)))) wNil))))) (wNot (wTru (wCall (S__law_same 3) (wCons (wMeth 0 S_File_pending (wVar 6) wNil) (wCons (wC (.int 1)) wNil))))))
  (sRet (wC (.bl false)))
  sNext)
  (sRet (wAndV (wCall (S__law_same 3) (wCons (wMeth 0 S_File_content (wVar 2) wNil) (wCons (wVar 3) wNil))) (wCall (S__law_same 3) (wCons (wMeth 0 S_File_pending (wVar 2) wNil) (wCons (wC (.int 0)) wNil)))))))))))))))))

end K9
set_option Elab.async false
set_option linter.all false
set_option maxRecDepth 100000
set_option maxHeartbeats 1000000
namespace K9
open PySem PySem.Spec PyProof.Rows L2 DW
theorem sc__applied : FnScope ["data", "steps", "result", "name", "number"] ["data", "steps"] (defScope st__applied) := ⟨rfl, rfl, rfl, by decide +kernel, rfl, by decide +kernel, by decide +kernel⟩
theorem dv__applied {P : Program} {w : World} {K : PySem.W.Frag} {mg : Str → Option Value} {base : Heap} (T : Tab K mg)  {fa : Addr} (cdv : Value) (Ar : Around) (outer : List Env) (s : Shared) (H : Hp) (E : XK) (W0 : Bw)
    (hr : Room 0 (Ar.deeper (envOfC "_applied" (defScope st__applied) s.heap.objs.size fa cdv))) :
    DSs (cxOf CX0 P w K mg base ["data", "steps", "result", "name", "number"] "_applied" (defScope st__applied) fa cdv Ar outer s H E).nox (cI K) W0 (defBody st__applied) (t__applied) := by
  unfold t__applied
  exact (dss_cons (ds_set (i := 2) sc__applied.nd rfl (.inl rfl) (de_callTy call_list_of (on_listOf (m := true)) (by rfl) T.b_list boot_list (da_cons (de_var (i := 0) rfl (.inl rfl)) da_nil)))
  (dss_cons (ds_for PassesOwn.never rfl (di_seq (de_var (i := 1) rfl (.inl rfl))) (dg_tp rfl (dgs_cons (dg_nm (i := 3) sc__applied.nd rfl (.inl rfl)) (dgs_cons (dg_nm (i := 4) sc__applied.nd rfl (.inl rfl)) dgs_nil)))
  (dss_one (ds_if (dt_cmp (oo_eq hr.units) od_eq (de_var (i := 3) rfl (.inl rfl)) de_str (nomark _))
  (dss_one (ds_expr (de_bm (T := .list) PySem.F.plainAttrs_list PySem.F.slot_list_append PySem.F.type_list_append mt_append om_append (de_var (i := 2) rfl (.inl rfl)) (da_cons (de_var (i := 4) rfl (.inl rfl)) da_nil))))
  (dss_one (ds_set (i := 2) sc__applied.nd rfl (.inl rfl) (de_slice (m := true) (de_var (i := 2) rfl (.inl rfl)) do_none (do_some (de_var (i := 4) rfl (.inl rfl)))))))))
  (dss_one (ds_ret (de_frz (de_var (i := 2) rfl (.inl rfl)))))))

theorem sc_File___init__ : FnScope ["self"] ["self"] (defScope st_File___init__) := ⟨rfl, rfl, rfl, by decide +kernel, rfl, by decide +kernel, by decide +kernel⟩
theorem dv_File___init__ {P : Program} {w : World} {K : PySem.W.Frag} {mg : Str → Option Value} {base : Heap} (T : Tab K mg)  {fa : Addr} (cdv : Value) (Ar : Around) (outer : List Env) (s : Shared) (H : Hp) (E : XK) (W0 : Bw)
    (hr : Room 0 (Ar.deeper (envOfC "File.__init__" (defScope st_File___init__) s.heap.objs.size fa cdv))) :
    DSs (cxOf CX0 P w K mg base ["self"] "File.__init__" (defScope st_File___init__) fa cdv Ar outer s H E).nox (cI K) W0 (defBody st_File___init__) (t_File___init__) := by
  unfold t_File___init__
  exact (dss_cons (ds_fld (cn := 0) (i := 0) T.cl_0 T.na_0_0 nd_0 (by show (nmI 0).length < 1000; decide) rfl (de_var (i := 0) rfl (.inl rfl)) (de_lst da_nil))
  (dss_one (ds_fld (cn := 0) (i := 1) T.cl_0 T.na_0_1 nd_0 (by show (nmI 0).length < 1000; decide) rfl (de_var (i := 0) rfl (.inl rfl)) (de_lstM da_nil))))

theorem sc_File_write : FnScope ["self", "data", "steps", "count", "byte"] ["self", "data", "steps"] (defScope st_File_write) := ⟨rfl, rfl, rfl, by decide +kernel, rfl, by decide +kernel, by decide +kernel⟩
theorem dv_File_write {P : Program} {w : World} {K : PySem.W.Frag} {mg : Str → Option Value} {base : Heap} (T : Tab K mg)  {fa : Addr} (cdv : Value) (Ar : Around) (outer : List Env) (s : Shared) (H : Hp) (E : XK) (W0 : Bw)
    (hr : Room 0 (Ar.deeper (envOfC "File.write" (defScope st_File_write) s.heap.objs.size fa cdv))) :
    DSs (cxOf CX0 P w K mg base ["self", "data", "steps", "count", "byte"] "File.write" (defScope st_File_write) fa cdv Ar outer s H E).nox (cI K) W0 (defBody st_File_write) (t_File_write) := by
  unfold t_File_write
  exact (dss_cons (ds_set (i := 3) sc_File_write.nd rfl (.inl rfl) (de_if (dt_cmp oo_is od_is (de_var (i := 2) rfl (.inl rfl)) de_non (nomark _)) (de_callB oc_len on_len (by rfl) T.b_len boot_len (da_cons (de_var (i := 1) rfl (.inl rfl)) da_nil)) (de_callB (call_min2 rfl) on_min2 (by rfl) T.b_min boot_min (da_cons (de_var (i := 2) rfl (.inl rfl)) (da_cons (de_callB oc_len on_len (by rfl) T.b_len boot_len (da_cons (de_var (i := 1) rfl (.inl rfl)) da_nil)) da_nil)))))
  (dss_cons (ds_expr (de_bm (T := .list) PySem.F.plainAttrs_list PySem.F.slot_list_extend PySem.F.type_list_extend mt_extend om_extend (de_fld (cn := 0) (i := 1) T.cl_0 T.na_0_1 nd_0 rfl (de_var (i := 0) rfl (.inl rfl))) (da_cons (de_lc (m := false) (own := [("byte", 4)]) rfl sc_File_write.nd (di_seq (de_slice (m := false) (de_var (i := 1) rfl (.inl rfl)) do_none (do_some (de_var (i := 3) rfl (.inl rfl))))) (blkOk_by (own := [("byte", 4)]) (by show blkC ["self", "data", "steps", "count", "byte"] (defScope st_File_write) _ _ = true; decide +kernel)) (fun _ => (dg_nm (i := 4) sc_File_write.nd rfl (.inl rfl))) (by decide) (fun _ => dts_nil) (fun _ => (de_tup (da_cons de_str (da_cons (de_var (i := 4) rfl (.inl rfl)) da_nil))))) da_nil)))
  (dss_one (ds_ret (de_var (i := 3) rfl (.inl rfl))))))

theorem sc_File_shorten : FnScope ["self", "size", "steps"] ["self", "size", "steps"] (defScope st_File_shorten) := ⟨rfl, rfl, rfl, by decide +kernel, rfl, by decide +kernel, by decide +kernel⟩
theorem dv_File_shorten {P : Program} {w : World} {K : PySem.W.Frag} {mg : Str → Option Value} {base : Heap} (T : Tab K mg)  {fa : Addr} (cdv : Value) (Ar : Around) (outer : List Env) (s : Shared) (H : Hp) (E : XK) (W0 : Bw)
    (hr : Room 0 (Ar.deeper (envOfC "File.shorten" (defScope st_File_shorten) s.heap.objs.size fa cdv))) :
    DSs (cxOf CX0 P w K mg base ["self", "size", "steps"] "File.shorten" (defScope st_File_shorten) fa cdv Ar outer s H E).nox (cI K) W0 (defBody st_File_shorten) (t_File_shorten) := by
  unfold t_File_shorten
  exact (dss_cons (ds_if (dt_cmp (oo_eq hr.units) od_eq (de_var (i := 2) rfl (.inl rfl)) de_int (nomark _))
  (dss_one (ds_ret de_int))
  dss_nil)
  (dss_cons (ds_expr (de_bm (T := .list) PySem.F.plainAttrs_list PySem.F.slot_list_append PySem.F.type_list_append mt_append om_append (de_fld (cn := 0) (i := 1) T.cl_0 T.na_0_1 nd_0 rfl (de_var (i := 0) rfl (.inl rfl))) (da_cons (de_tup (da_cons de_str (da_cons (de_var (i := 1) rfl (.inl rfl)) da_nil))) da_nil)))
  (dss_one (ds_ret de_int))))

theorem sc_File_lose : FnScope ["self", "steps"] ["self", "steps"] (defScope st_File_lose) := ⟨rfl, rfl, rfl, by decide +kernel, rfl, by decide +kernel, by decide +kernel⟩
theorem dv_File_lose {P : Program} {w : World} {K : PySem.W.Frag} {mg : Str → Option Value} {base : Heap} (T : Tab K mg) (c__applied : CalD P w K mg base 1 "_applied" (spD K (cI K) S__applied)) {fa : Addr} (cdv : Value) (Ar : Around) (outer : List Env) (s : Shared) (H : Hp) (E : XK) (W0 : Bw)
    (hr : Room 1 (Ar.deeper (envOfC "File.lose" (defScope st_File_lose) s.heap.objs.size fa cdv))) :
    DSs (cxOf CX0 P w K mg base ["self", "steps"] "File.lose" (defScope st_File_lose) fa cdv Ar outer s H E).nox (cI K) W0 (defBody st_File_lose) (t_File_lose) := by
  unfold t_File_lose
  exact (dss_cons (ds_fld (cn := 0) (i := 0) T.cl_0 T.na_0_0 nd_0 (by show (nmI 0).length < 1000; decide) rfl (de_var (i := 0) rfl (.inl rfl)) (de_call c__applied hr (by decide) (by rfl) (da_cons (de_fld (cn := 0) (i := 0) T.cl_0 T.na_0_0 nd_0 rfl (de_var (i := 0) rfl (.inl rfl))) (da_cons (de_slice (m := false) (de_fld (cn := 0) (i := 1) T.cl_0 T.na_0_1 nd_0 rfl (de_var (i := 0) rfl (.inl rfl))) do_none (do_some (de_var (i := 1) rfl (.inl rfl)))) da_nil))))
  (dss_one (ds_fld (cn := 0) (i := 1) T.cl_0 T.na_0_1 nd_0 (by show (nmI 0).length < 1000; decide) rfl (de_var (i := 0) rfl (.inl rfl)) (de_lstM da_nil))))

theorem sc_File_flush : FnScope ["self", "steps"] ["self", "steps"] (defScope st_File_flush) := ⟨rfl, rfl, rfl, by decide +kernel, rfl, by decide +kernel, by decide +kernel⟩
theorem dv_File_flush {P : Program} {w : World} {K : PySem.W.Frag} {mg : Str → Option Value} {base : Heap} (T : Tab K mg) (c_File_lose : MetD P w K mg base 2 ((cI K).ad 0) "lose" (spD K (cI K) S_File_lose)) {fa : Addr} (cdv : Value) (Ar : Around) (outer : List Env) (s : Shared) (H : Hp) (E : XK) (W0 : Bw)
    (hr : Room 2 (Ar.deeper (envOfC "File.flush" (defScope st_File_flush) s.heap.objs.size fa cdv))) :
    DSs (cxOf CX0 P w K mg base ["self", "steps"] "File.flush" (defScope st_File_flush) fa cdv Ar outer s H E).nox (cI K) W0 (defBody st_File_flush) (t_File_flush) := by
  unfold t_File_flush
  exact (dss_cons (ds_if (dt_cmp (oo_eq hr.units) od_eq (de_var (i := 1) rfl (.inl rfl)) de_int (nomark _))
  (dss_one (ds_ret de_int))
  dss_nil)
  (dss_cons (ds_expr (de_meth (cn := 0) c_File_lose (by show _ ∉ nmI 0; decide +kernel) hr (by decide) (de_var (i := 0) rfl (.inl rfl)) (da_cons (de_callB oc_len on_len (by rfl) T.b_len boot_len (da_cons (de_fld (cn := 0) (i := 1) T.cl_0 T.na_0_1 nd_0 rfl (de_var (i := 0) rfl (.inl rfl))) da_nil)) da_nil)))
  (dss_one (ds_ret de_int))))

theorem sc_File_content : FnScope ["self"] ["self"] (defScope st_File_content) := ⟨rfl, rfl, rfl, by decide +kernel, rfl, by decide +kernel, by decide +kernel⟩
theorem dv_File_content {P : Program} {w : World} {K : PySem.W.Frag} {mg : Str → Option Value} {base : Heap} (T : Tab K mg) (c__applied : CalD P w K mg base 1 "_applied" (spD K (cI K) S__applied)) {fa : Addr} (cdv : Value) (Ar : Around) (outer : List Env) (s : Shared) (H : Hp) (E : XK) (W0 : Bw)
    (hr : Room 1 (Ar.deeper (envOfC "File.content" (defScope st_File_content) s.heap.objs.size fa cdv))) :
    DSs (cxOf CX0 P w K mg base ["self"] "File.content" (defScope st_File_content) fa cdv Ar outer s H E).nox (cI K) W0 (defBody st_File_content) (t_File_content) := by
  unfold t_File_content
  exact (dss_one (ds_ret (de_call c__applied hr (by decide) (by rfl) (da_cons (de_fld (cn := 0) (i := 0) T.cl_0 T.na_0_0 nd_0 rfl (de_var (i := 0) rfl (.inl rfl))) (da_cons (de_fld (cn := 0) (i := 1) T.cl_0 T.na_0_1 nd_0 rfl (de_var (i := 0) rfl (.inl rfl))) da_nil)))))

theorem sc_File_pending : FnScope ["self"] ["self"] (defScope st_File_pending) := ⟨rfl, rfl, rfl, by decide +kernel, rfl, by decide +kernel, by decide +kernel⟩
theorem dv_File_pending {P : Program} {w : World} {K : PySem.W.Frag} {mg : Str → Option Value} {base : Heap} (T : Tab K mg)  {fa : Addr} (cdv : Value) (Ar : Around) (outer : List Env) (s : Shared) (H : Hp) (E : XK) (W0 : Bw)
    (hr : Room 0 (Ar.deeper (envOfC "File.pending" (defScope st_File_pending) s.heap.objs.size fa cdv))) :
    DSs (cxOf CX0 P w K mg base ["self"] "File.pending" (defScope st_File_pending) fa cdv Ar outer s H E).nox (cI K) W0 (defBody st_File_pending) (t_File_pending) := by
  unfold t_File_pending
  exact (dss_one (ds_ret (de_callB oc_len on_len (by rfl) T.b_len boot_len (da_cons (de_fld (cn := 0) (i := 1) T.cl_0 T.na_0_1 nd_0 rfl (de_var (i := 0) rfl (.inl rfl))) da_nil))))

theorem sc__law_mix : FnScope ["cell", "k", "value"] ["cell", "k"] (defScope st__law_mix) := ⟨rfl, rfl, rfl, by decide +kernel, rfl, by decide +kernel, by decide +kernel⟩
theorem dv__law_mix {P : Program} {w : World} {K : PySem.W.Frag} {mg : Str → Option Value} {base : Heap} (T : Tab K mg)  {fa : Addr} (cdv : Value) (Ar : Around) (outer : List Env) (s : Shared) (H : Hp) (E : XK) (W0 : Bw)
    (hr : Room 0 (Ar.deeper (envOfC "_law_mix" (defScope st__law_mix) s.heap.objs.size fa cdv))) :
    DSs (cxOf CX0 P w K mg base ["cell", "k", "value"] "_law_mix" (defScope st__law_mix) fa cdv Ar outer s H E).nox (cI K) W0 (defBody st__law_mix) (t__law_mix) := by
  unfold t__law_mix
  exact (dss_cons (ds_set (i := 2) sc__law_mix.nd rfl (.inl rfl) (de_bin op_mod od_mod (de_callTy call_int1 on_int1 (by rfl) T.b_int boot_int (da_cons (de_bin oo_add od_add (de_bin oo_add od_add (de_bin oo_mul od_mul (de_callTy call_int1 on_int1 (by rfl) T.b_int boot_int (da_cons (de_var (i := 0) rfl (.inl rfl)) da_nil)) de_int) (de_bin oo_mul od_mul (de_var (i := 1) rfl (.inl rfl)) de_int)) de_int) da_nil)) de_int))
  (dss_cons (ds_set (i := 2) sc__law_mix.nd rfl (.inl rfl) (de_bin op_mod od_mod (de_callTy call_int1 on_int1 (by rfl) T.b_int boot_int (da_cons (de_bin oo_add od_add (de_bin oo_add od_add (de_bin oo_mul od_mul (de_var (i := 2) rfl (.inl rfl)) (de_var (i := 2) rfl (.inl rfl))) (de_bin oo_mul od_mul (de_var (i := 1) rfl (.inl rfl)) de_int)) de_int) da_nil)) de_int))
  (dss_one (ds_ret (de_bin op_mod od_mod (de_bin op_fdiv od_fdiv (de_var (i := 2) rfl (.inl rfl)) de_int) de_int)))))

theorem sc__law_draws : FnScope ["script", "draws", "k", "cell", "place"] ["script"] (defScope st__law_draws) := ⟨rfl, rfl, rfl, by decide +kernel, rfl, by decide +kernel, by decide +kernel⟩
theorem dv__law_draws {P : Program} {w : World} {K : PySem.W.Frag} {mg : Str → Option Value} {base : Heap} (T : Tab K mg) (c__law_mix : CalD P w K mg base 1 "_law_mix" (spD K (cI K) S__law_mix)) {fa : Addr} (cdv : Value) (Ar : Around) (outer : List Env) (s : Shared) (H : Hp) (E : XK) (W0 : Bw)
    (hr : Room 1 (Ar.deeper (envOfC "_law_draws" (defScope st__law_draws) s.heap.objs.size fa cdv))) :
    DSs (cxOf CX0 P w K mg base ["script", "draws", "k", "cell", "place"] "_law_draws" (defScope st__law_draws) fa cdv Ar outer s H E).nox (cI K) W0 (defBody st__law_draws) (t__law_draws) := by
  unfold t__law_draws
  exact (dss_cons (ds_set (i := 1) sc__law_draws.nd rfl (.inl rfl) (de_lstM da_nil))
  (dss_cons (ds_for PassesOwn.never rfl (di_rng1 (by rfl) T.b_range (da_cons (de_callB (call_min2 rfl) on_min2 (by rfl) T.b_min boot_min (da_cons de_int (da_cons (de_callB oc_len on_len (by rfl) T.b_len boot_len (da_cons (de_var (i := 0) rfl (.inl rfl)) da_nil)) da_nil))) da_nil)) (dg_nm (i := 2) sc__law_draws.nd rfl (.inl rfl))
  (dss_cons (ds_set (i := 3) sc__law_draws.nd rfl (.inl rfl) (de_callTy call_int1 on_int1 (by rfl) T.b_int boot_int (da_cons (de_ix (oo_ix (hu1 hr)) od_ix (de_var (i := 0) rfl (.inl rfl)) (de_var (i := 2) rfl (.inl rfl)) (fun _ _ => rfl)) da_nil)))
  (dss_one (ds_if (dt_cmp op_lt od_lt (de_var (i := 3) rfl (.inl rfl)) (de_bin op_pow od_pow de_int de_int) (nomark _))
  (dss_one (ds_expr (de_bm (T := .list) PySem.F.plainAttrs_list PySem.F.slot_list_append PySem.F.type_list_append mt_append om_append (de_var (i := 1) rfl (.inl rfl)) (da_cons (de_call c__law_mix hr (by decide) (by rfl) (da_cons (de_var (i := 3) rfl (.inl rfl)) (da_cons (de_var (i := 2) rfl (.inl rfl)) da_nil))) da_nil))))
  (dss_one (ds_for PassesOwn.never rfl (di_rng1 (by rfl) T.b_range (da_cons de_int da_nil)) (dg_nm (i := 4) sc__law_draws.nd rfl (.inl rfl))
  (dss_one (ds_if (dt_cmp op_gt od_gt (de_var (i := 3) rfl (.inl rfl)) de_int (nomark _))
  (dss_cons (ds_expr (de_bm (T := .list) PySem.F.plainAttrs_list PySem.F.slot_list_append PySem.F.type_list_append mt_append om_append (de_var (i := 1) rfl (.inl rfl)) (da_cons (de_bin op_mod od_mod (de_callTy call_int1 on_int1 (by rfl) T.b_int boot_int (da_cons (de_var (i := 3) rfl (.inl rfl)) da_nil)) de_int) da_nil)))
  (dss_one (ds_set (i := 3) sc__law_draws.nd rfl (.inl rfl) (de_bin op_fdiv od_fdiv (de_var (i := 3) rfl (.inl rfl)) de_int))))
  dss_nil))))))))
  (dss_one (ds_ret (de_frz (de_var (i := 1) rfl (.inl rfl)))))))

theorem sc__law_at : FnScope ["draws", "index"] ["draws", "index"] (defScope st__law_at) := ⟨rfl, rfl, rfl, by decide +kernel, rfl, by decide +kernel, by decide +kernel⟩
theorem dv__law_at {P : Program} {w : World} {K : PySem.W.Frag} {mg : Str → Option Value} {base : Heap} (T : Tab K mg) (c__law_mix : CalD P w K mg base 1 "_law_mix" (spD K (cI K) S__law_mix)) {fa : Addr} (cdv : Value) (Ar : Around) (outer : List Env) (s : Shared) (H : Hp) (E : XK) (W0 : Bw)
    (hr : Room 1 (Ar.deeper (envOfC "_law_at" (defScope st__law_at) s.heap.objs.size fa cdv))) :
    DSs (cxOf CX0 P w K mg base ["draws", "index"] "_law_at" (defScope st__law_at) fa cdv Ar outer s H E).nox (cI K) W0 (defBody st__law_at) (t__law_at) := by
  unfold t__law_at
  exact (dss_cons (ds_if (dt_cmp op_lt od_lt (de_var (i := 1) rfl (.inl rfl)) (de_callB oc_len on_len (by rfl) T.b_len boot_len (da_cons (de_var (i := 0) rfl (.inl rfl)) da_nil)) (nomark _))
  (dss_one (ds_ret (de_ix (oo_ix (hu1 hr)) od_ix (de_var (i := 0) rfl (.inl rfl)) (de_var (i := 1) rfl (.inl rfl)) (fun _ _ => rfl))))
  dss_nil)
  (dss_cons (ds_if (dt_cmp (oo_eq hr.units) od_eq (de_callB oc_len on_len (by rfl) T.b_len boot_len (da_cons (de_var (i := 0) rfl (.inl rfl)) da_nil)) de_int (nomark _))
  (dss_one (ds_ret (de_call c__law_mix hr (by decide) (by rfl) (da_cons (de_var (i := 1) rfl (.inl rfl)) (da_cons de_int da_nil)))))
  dss_nil)
  (dss_one (ds_ret (de_call c__law_mix hr (by decide) (by rfl) (da_cons (de_bin oo_add od_add (de_ix (oo_ix (hu1 hr)) od_ix (de_var (i := 0) rfl (.inl rfl)) (de_bin op_mod od_mod (de_callTy call_int1 on_int1 (by rfl) T.b_int boot_int (da_cons (de_var (i := 1) rfl (.inl rfl)) da_nil)) (de_callB oc_len on_len (by rfl) T.b_len boot_len (da_cons (de_var (i := 0) rfl (.inl rfl)) da_nil))) (fun _ _ => rfl)) (de_bin oo_mul od_mul (de_var (i := 1) rfl (.inl rfl)) de_int)) (da_cons (de_var (i := 1) rfl (.inl rfl)) da_nil)))))))

theorem sc__law_is_integer : FnScope ["actual"] ["actual"] (defScope st__law_is_integer) := ⟨rfl, rfl, rfl, by decide +kernel, rfl, by decide +kernel, by decide +kernel⟩
theorem dv__law_is_integer {P : Program} {w : World} {K : PySem.W.Frag} {mg : Str → Option Value} {base : Heap} (T : Tab K mg)  {fa : Addr} (cdv : Value) (Ar : Around) (outer : List Env) (s : Shared) (H : Hp) (E : XK) (W0 : Bw)
    (hr : Room 0 (Ar.deeper (envOfC "_law_is_integer" (defScope st__law_is_integer) s.heap.objs.size fa cdv))) :
    DSs (cxOf CX0 P w K mg base ["actual"] "_law_is_integer" (defScope st__law_is_integer) fa cdv Ar outer s H E).nox (cI K) W0 (defBody st__law_is_integer) (t__law_is_integer) := by
  unfold t__law_is_integer
  exact (dss_one (ds_ret (de_andV (de_callB oc_isi on_isi (by rfl) T.b_isinstance boot_isinstance (da_cons (de_var (i := 0) rfl (.inl rfl)) (da_cons (de_bltn (v := .ty "int") (by rfl) T.b_int boot_int rfl) da_nil))) (de_one (de_notV (de_callB oc_isi on_isi (by rfl) T.b_isinstance boot_isinstance (da_cons (de_var (i := 0) rfl (.inl rfl)) (da_cons (de_bltn (v := .ty "bool") (by rfl) T.b_bool boot_bool rfl) da_nil))))))))

theorem sc__law_same : FnScope ["actual", "expected", "k"] ["actual", "expected"] (defScope st__law_same) := ⟨rfl, rfl, rfl, by decide +kernel, rfl, by decide +kernel, by decide +kernel⟩
theorem dv__law_same {P : Program} {w : World} {K : PySem.W.Frag} {mg : Str → Option Value} {base : Heap} (T : Tab K mg) (n : Nat) (c__law_is_integer : CalD P w K mg base 1 "_law_is_integer" (spD K (cI K) S__law_is_integer)) (c__law_same : CalD P w K mg base (1 + n) "_law_same" (spD K (cI K) (S__law_same n))) {fa : Addr} (cdv : Value) (Ar : Around) (outer : List Env) (s : Shared) (H : Hp) (E : XK) (W0 : Bw)
    (hr : Room (1 + n) (Ar.deeper (envOfC "_law_same" (defScope st__law_same) s.heap.objs.size fa cdv))) :
    DSs (cxOf CX0 P w K mg base ["actual", "expected", "k"] "_law_same" (defScope st__law_same) fa cdv Ar outer s H E).nox (cI K) W0 (defBody st__law_same) (t__law_same n) := by
  unfold t__law_same
  exact (dss_cons (ds_if (dt_truth (de_callB oc_isi on_isi (by rfl) T.b_isinstance boot_isinstance (da_cons (de_var (i := 1) rfl (.inl rfl)) (da_cons (de_tup (da_cons (de_bltn (v := .ty "list") (by rfl) T.b_list boot_list rfl) (da_cons (de_bltn (v := .ty "tuple") (by rfl) T.b_tuple boot_tuple rfl) da_nil))) da_nil))))
  (dss_cons (ds_if (dtw_pt (dt_or (dt_cmp (oo_ne hr.units) od_ne (de_callB oc_isi on_isi (by rfl) T.b_isinstance boot_isinstance (da_cons (de_var (i := 1) rfl (.inl rfl)) (da_cons (de_bltn (v := .ty "list") (by rfl) T.b_list boot_list rfl) da_nil))) (de_callB oc_isi on_isi (by rfl) T.b_isinstance boot_isinstance (da_cons (de_var (i := 0) rfl (.inl rfl)) (da_cons (de_bltn (v := .ty "list") (by rfl) T.b_list boot_list rfl) da_nil))) (nomark _)) (dt_or1 (dt_cmp (oo_ne hr.units) od_ne (de_callB oc_isi on_isi (by rfl) T.b_isinstance boot_isinstance (da_cons (de_var (i := 1) rfl (.inl rfl)) (da_cons (de_bltn (v := .ty "tuple") (by rfl) T.b_tuple boot_tuple rfl) da_nil))) (de_callB oc_isi on_isi (by rfl) T.b_isinstance boot_isinstance (da_cons (de_var (i := 0) rfl (.inl rfl)) (da_cons (de_bltn (v := .ty "tuple") (by rfl) T.b_tuple boot_tuple rfl) da_nil))) (nomark _)))))
  (dss_one (ds_ret de_bl))
  dss_nil)
  (dss_cons (ds_if (dt_cmp (oo_ne hr.units) od_ne (de_callB oc_len on_len (by rfl) T.b_len boot_len (da_cons (de_var (i := 0) rfl (.inl rfl)) da_nil)) (de_callB oc_len on_len (by rfl) T.b_len boot_len (da_cons (de_var (i := 1) rfl (.inl rfl)) da_nil)) (nomark _))
  (dss_one (ds_ret de_bl))
  dss_nil)
  (dss_cons (ds_for PassesOwn.never rfl (di_rng1 (by rfl) T.b_range (da_cons (de_callB oc_len on_len (by rfl) T.b_len boot_len (da_cons (de_var (i := 1) rfl (.inl rfl)) da_nil)) da_nil)) (dg_nm (i := 2) sc__law_same.nd rfl (.inl rfl))
  (dss_one (ds_if (dt_not (dt_truth (de_call c__law_same hr (by omega) (by rfl) (da_cons (de_ix (oo_ix (hu1 hr)) od_ix (de_var (i := 0) rfl (.inl rfl)) (de_var (i := 2) rfl (.inl rfl)) (fun _ _ => rfl)) (da_cons (de_ix (oo_ix (hu1 hr)) od_ix (de_var (i := 1) rfl (.inl rfl)) (de_var (i := 2) rfl (.inl rfl)) (fun _ _ => rfl)) da_nil)))))
  (dss_one (ds_ret de_bl))
  dss_nil)))
  (dss_one (ds_ret de_bl)))))
  dss_nil)
  (dss_cons (ds_if (dt_cmp oo_is od_is (de_var (i := 1) rfl (.inl rfl)) de_non (nomark _))
  (dss_one (ds_ret (de_cmp oo_is od_is (de_var (i := 0) rfl (.inl rfl)) de_non (nomark _))))
  dss_nil)
  (dss_cons (ds_if (dt_truth (de_callB oc_isi on_isi (by rfl) T.b_isinstance boot_isinstance (da_cons (de_var (i := 1) rfl (.inl rfl)) (da_cons (de_bltn (v := .ty "bool") (by rfl) T.b_bool boot_bool rfl) da_nil))))
  (dss_one (ds_ret (de_andV (de_callB oc_isi on_isi (by rfl) T.b_isinstance boot_isinstance (da_cons (de_var (i := 0) rfl (.inl rfl)) (da_cons (de_bltn (v := .ty "bool") (by rfl) T.b_bool boot_bool rfl) da_nil))) (de_one (de_cmp (oo_eq hr.units) od_eq (de_var (i := 0) rfl (.inl rfl)) (de_var (i := 1) rfl (.inl rfl)) (nomark _))))))
  dss_nil)
  (dss_cons (ds_if (dt_truth (de_callB oc_isi on_isi (by rfl) T.b_isinstance boot_isinstance (da_cons (de_var (i := 1) rfl (.inl rfl)) (da_cons (de_bltn (v := .ty "int") (by rfl) T.b_int boot_int rfl) da_nil))))
  (dss_one (ds_ret (de_andV (de_call c__law_is_integer hr (by omega) (by rfl) (da_cons (de_var (i := 0) rfl (.inl rfl)) da_nil)) (de_one (de_cmp (oo_eq hr.units) od_eq (de_var (i := 0) rfl (.inl rfl)) (de_var (i := 1) rfl (.inl rfl)) (nomark _))))))
  dss_nil)
  (dss_one (ds_ret (de_andV (de_callB oc_isi on_isi (by rfl) T.b_isinstance boot_isinstance (da_cons (de_var (i := 0) rfl (.inl rfl)) (da_cons (de_bltn (v := .ty "str") (by rfl) T.b_str boot_str rfl) da_nil))) (de_one (de_cmp (oo_eq hr.units) od_eq (de_var (i := 0) rfl (.inl rfl)) (de_var (i := 1) rfl (.inl rfl)) (nomark _))))))))))

theorem sc__law_next : FnScope ["state", "limit"] ["state", "limit"] (defScope st__law_next) := ⟨rfl, rfl, rfl, by decide +kernel, rfl, by decide +kernel, by decide +kernel⟩
theorem dv__law_next {P : Program} {w : World} {K : PySem.W.Frag} {mg : Str → Option Value} {base : Heap} (T : Tab K mg) (c__law_at : CalD P w K mg base 2 "_law_at" (spD K (cI K) S__law_at)) {fa : Addr} (cdv : Value) (Ar : Around) (outer : List Env) (s : Shared) (H : Hp) (E : XK) (W0 : Bw)
    (hr : Room 2 (Ar.deeper (envOfC "_law_next" (defScope st__law_next) s.heap.objs.size fa cdv))) :
    DSs (cxOf CX0 P w K mg base ["state", "limit"] "_law_next" (defScope st__law_next) fa cdv Ar outer s H E).nox (cI K) W0 (defBody st__law_next) (t__law_next) := by
  unfold t__law_next
  exact (dss_cons (ds_augsub (hu1 hr) (de_var (i := 0) rfl (.inl rfl)) de_int de_int iop_add od_addI)
  (dss_one (ds_ret (de_bin op_mod od_mod (de_call c__law_at hr (by decide) (by rfl) (da_cons (de_ix (oo_ix (hu1 hr)) od_ix (de_var (i := 0) rfl (.inl rfl)) de_int (fun _ _ => rfl)) (da_cons (de_ix (oo_ix (hu1 hr)) od_ix (de_var (i := 0) rfl (.inl rfl)) de_int (fun _ _ => rfl)) da_nil))) (de_var (i := 1) rfl (.inl rfl))))))

theorem sc__law_after : FnScope ["data", "steps", "kind", "number"] ["data", "steps"] (defScope st__law_after) := ⟨rfl, rfl, rfl, by decide +kernel, rfl, by decide +kernel, by decide +kernel⟩
theorem dv__law_after {P : Program} {w : World} {K : PySem.W.Frag} {mg : Str → Option Value} {base : Heap} (T : Tab K mg)  {fa : Addr} (cdv : Value) (Ar : Around) (outer : List Env) (s : Shared) (H : Hp) (E : XK) (W0 : Bw)
    (hr : Room 0 (Ar.deeper (envOfC "_law_after" (defScope st__law_after) s.heap.objs.size fa cdv))) :
    DSs (cxOf CX0 P w K mg base ["data", "steps", "kind", "number"] "_law_after" (defScope st__law_after) fa cdv Ar outer s H E).nox (cI K) W0 (defBody st__law_after) (t__law_after) := by
  unfold t__law_after
  exact (dss_cons (ds_set (i := 0) sc__law_after.nd rfl (.inl rfl) (de_callTy call_list_of (on_listOf (m := true)) (by rfl) T.b_list boot_list (da_cons (de_var (i := 0) rfl (.inl rfl)) da_nil)))
  (dss_cons (ds_for PassesOwn.never rfl (di_seq (de_var (i := 1) rfl (.inl rfl))) (dg_tp rfl (dgs_cons (dg_nm (i := 2) sc__law_after.nd rfl (.inl rfl)) (dgs_cons (dg_nm (i := 3) sc__law_after.nd rfl (.inl rfl)) dgs_nil)))
  (dss_one (ds_if (dt_cmp (oo_eq hr.units) od_eq (de_var (i := 2) rfl (.inl rfl)) de_int (nomark _))
  (dss_one (ds_expr (de_bm (T := .list) PySem.F.plainAttrs_list PySem.F.slot_list_append PySem.F.type_list_append mt_append om_append (de_var (i := 0) rfl (.inl rfl)) (da_cons (de_var (i := 3) rfl (.inl rfl)) da_nil))))
  (dss_one (ds_set (i := 0) sc__law_after.nd rfl (.inl rfl) (de_slice (m := true) (de_var (i := 0) rfl (.inl rfl)) do_none (do_some (de_var (i := 3) rfl (.inl rfl)))))))))
  (dss_one (ds_ret (de_frz (de_var (i := 0) rfl (.inl rfl)))))))

theorem sc__law_deed : FnScope ["state", "file", "lasting", "steps", "pick", "limit", "count", "data", "passed", "done", "size", "k", "byte"] ["state", "file", "lasting", "steps"] (defScope st__law_deed) := ⟨rfl, rfl, rfl, by decide +kernel, rfl, by decide +kernel, by decide +kernel⟩
theorem dv__law_deed {P : Program} {w : World} {K : PySem.W.Frag} {mg : Str → Option Value} {base : Heap} (T : Tab K mg) (c_File_flush : MetD P w K mg base 3 ((cI K).ad 0) "flush" (spD K (cI K) S_File_flush)) (c_File_lose : MetD P w K mg base 2 ((cI K).ad 0) "lose" (spD K (cI K) S_File_lose)) (c_File_shorten : MetD P w K mg base 1 ((cI K).ad 0) "shorten" (spD K (cI K) S_File_shorten)) (c_File_write : MetD P w K mg base 1 ((cI K).ad 0) "write" (spD K (cI K) S_File_write)) (c__law_after : CalD P w K mg base 1 "_law_after" (spD K (cI K) S__law_after)) (c__law_next : CalD P w K mg base 3 "_law_next" (spD K (cI K) S__law_next)) (c__law_same : CalD P w K mg base 4 "_law_same" (spD K (cI K) (S__law_same 3))) {fa : Addr} (cdv : Value) (Ar : Around) (outer : List Env) (s : Shared) (H : Hp) (E : XK) (W0 : Bw)
    (hr : Room 4 (Ar.deeper (envOfC "_law_deed" (defScope st__law_deed) s.heap.objs.size fa cdv))) :
    DSs (cxOf CX0 P w K mg base ["state", "file", "lasting", "steps", "pick", "limit", "count", "data", "passed", "done", "size", "k", "byte"] "_law_deed" (defScope st__law_deed) fa cdv Ar outer s H E).nox (cI K) W0 (defBody st__law_deed) (t__law_deed) := by
  unfold t__law_deed
  exact (dss_cons (ds_set (i := 4) sc__law_deed.nd rfl (.inl rfl) (de_call c__law_next hr (by decide) (by rfl) (da_cons (de_var (i := 0) rfl (.inr (.inl rfl))) (da_cons de_int da_nil))))
  (dss_cons (ds_set (i := 5) sc__law_deed.nd rfl (.inl rfl) de_non)
  (dss_cons (ds_if (dt_cmp (oo_eq hr.units) od_eq (de_call c__law_next hr (by decide) (by rfl) (da_cons (de_var (i := 0) rfl (.inr (.inl rfl))) (da_cons de_int da_nil))) de_int (nomark _))
  (dss_one (ds_set (i := 5) sc__law_deed.nd rfl (.inl rfl) (de_ix (oo_ix (hu1 hr)) od_ix (de_lst (da_cons (de_call c__law_next hr (by decide) (by rfl) (da_cons (de_var (i := 0) rfl (.inr (.inl rfl))) (da_cons de_int da_nil))) (da_cons (de_call c__law_next hr (by decide) (by rfl) (da_cons (de_var (i := 0) rfl (.inr (.inl rfl))) (da_cons de_int da_nil))) da_nil))) (de_call c__law_next hr (by decide) (by rfl) (da_cons (de_var (i := 0) rfl (.inr (.inl rfl))) (da_cons de_int da_nil))) (fun _ _ => rfl))))
  dss_nil)
  (dss_cons (ds_if (dt_cmp op_lt od_lt (de_var (i := 4) rfl (.inl rfl)) de_int (nomark _))
  (dss_cons (ds_setLc (i := 7) (m := false) (own := [("k", 11)]) rfl sc__law_deed.nd rfl rfl (sw_true rfl rfl rfl (by decide +kernel)) (di_rng1 (by rfl) T.b_range (da_cons (de_bin oo_add od_add (de_call c__law_next hr (by decide) (by rfl) (da_cons (de_var (i := 0) rfl (.inr (.inl rfl))) (da_cons de_int da_nil))) (de_bin oo_mul od_mul de_int (de_callTy call_int1 on_int1 (by rfl) T.b_int boot_int (da_cons (de_cmp (oo_eq hr.units) od_eq (de_call c__law_next hr (by decide) (by rfl) (da_cons (de_var (i := 0) rfl (.inr (.inl rfl))) (da_cons de_int da_nil))) de_int (nomark _)) da_nil)))) da_nil)) (blkOk_by (own := [("k", 11)]) (by show blkC ["state", "file", "lasting", "steps", "pick", "limit", "count", "data", "passed", "done", "size", "k", "byte"] (defScope st__law_deed) _ _ = true; decide +kernel)) (fun _ => (dg_nm (i := 11) sc__law_deed.nd rfl (.inl rfl))) (by decide) (fun _ => dts_nil) (fun _ => (de_call c__law_next hr (by decide) (by rfl) (da_cons (de_var (i := 0) rfl (.inr (.inl rfl))) (da_cons de_int da_nil)))))
  (dss_cons (ds_set (i := 6) sc__law_deed.nd rfl (.inl rfl) (de_callB oc_len on_len (by rfl) T.b_len boot_len (da_cons (de_var (i := 7) rfl (.inl rfl)) da_nil)))
  (dss_cons (ds_if (dt_cmp oo_isNot od_isNot (de_var (i := 5) rfl (.inl rfl)) de_non (nomark _))
  (dss_one (ds_set (i := 6) sc__law_deed.nd rfl (.inl rfl) (de_callB (call_min2 rfl) on_min2 (by rfl) T.b_min boot_min (da_cons (de_var (i := 6) rfl (.inl rfl)) (da_cons (de_var (i := 5) rfl (.inl rfl)) da_nil)))))
  dss_nil)
  (dss_cons (ds_set (i := 8) sc__law_deed.nd rfl (.inl rfl) (de_callTy call_list_of (on_listOf (m := true)) (by rfl) T.b_list boot_list (da_cons (de_var (i := 7) rfl (.inl rfl)) da_nil)))
  (dss_cons (ds_set (i := 9) sc__law_deed.nd rfl (.inl rfl) (de_meth (cn := 0) c_File_write (by show _ ∉ nmI 0; decide +kernel) hr (by decide) (de_var (i := 1) rfl (.inl rfl)) (da_cons (de_var (i := 8) rfl (.inl rfl)) (da_cons (de_var (i := 5) rfl (.inl rfl)) da_nil))))
  (dss_cons (ds_if (dt_cmp (oo_ne hr.units) od_ne (de_var (i := 8) rfl (.inl rfl)) (de_var (i := 7) rfl (.inl rfl)) (nomark _))
  (dss_one (ds_ret (de_lst (da_cons de_bl (da_cons (de_var (i := 2) rfl (.inl rfl)) (da_cons (de_var (i := 3) rfl (.inl rfl)) da_nil))))))
  dss_nil)
  (dss_cons (ds_expr (de_bm (T := .list) PySem.F.plainAttrs_list PySem.F.slot_list_insert PySem.F.type_list_insert mt_insert om_insert (de_var (i := 8) rfl (.inl rfl)) (da_cons de_int (da_cons de_int da_nil))))
  (dss_cons (ds_expr (de_bm (T := .list) PySem.F.plainAttrs_list PySem.F.slot_list_append PySem.F.type_list_append mt_append om_append (de_var (i := 8) rfl (.inl rfl)) (da_cons de_int da_nil)))
  (dss_one (ds_ret (de_lst (da_cons (de_call c__law_same hr (by decide) (by rfl) (da_cons (de_var (i := 9) rfl (.inl rfl)) (da_cons (de_var (i := 6) rfl (.inl rfl)) da_nil))) (da_cons (de_var (i := 2) rfl (.inl rfl)) (da_cons (de_bin oo_add od_add (de_var (i := 3) rfl (.inl rfl)) (de_lc (m := false) (own := [("byte", 12)]) rfl sc__law_deed.nd (di_seq (de_slice (m := false) (de_var (i := 7) rfl (.inl rfl)) do_none (do_some (de_var (i := 6) rfl (.inl rfl))))) (blkOk_by (own := [("byte", 12)]) (by show blkC ["state", "file", "lasting", "steps", "pick", "limit", "count", "data", "passed", "done", "size", "k", "byte"] (defScope st__law_deed) _ _ = true; decide +kernel)) (fun _ => (dg_nm (i := 12) sc__law_deed.nd rfl (.inl rfl))) (by decide) (fun _ => dts_nil) (fun _ => (de_tup (da_cons de_int (da_cons (de_var (i := 12) rfl (.inl rfl)) da_nil)))))) da_nil))))))))))))))
  dss_nil)
  (dss_cons (ds_if (dt_cmp op_lt od_lt (de_var (i := 4) rfl (.inl rfl)) de_int (nomark _))
  (dss_cons (ds_set (i := 10) sc__law_deed.nd rfl (.inl rfl) (de_call c__law_next hr (by decide) (by rfl) (da_cons (de_var (i := 0) rfl (.inr (.inl rfl))) (da_cons (de_bin oo_add od_add (de_callB oc_len on_len (by rfl) T.b_len boot_len (da_cons (de_call c__law_after hr (by decide) (by rfl) (da_cons (de_var (i := 2) rfl (.inl rfl)) (da_cons (de_var (i := 3) rfl (.inl rfl)) da_nil))) da_nil)) de_int) da_nil))))
  (dss_cons (ds_set (i := 9) sc__law_deed.nd rfl (.inl rfl) (de_meth (cn := 0) c_File_shorten (by show _ ∉ nmI 0; decide +kernel) hr (by decide) (de_var (i := 1) rfl (.inl rfl)) (da_cons (de_var (i := 10) rfl (.inl rfl)) (da_cons (de_var (i := 5) rfl (.inl rfl)) da_nil))))
  (dss_cons (ds_if (dt_cmp (oo_eq hr.units) od_eq (de_var (i := 5) rfl (.inl rfl)) de_int (nomark _))
  (dss_one (ds_ret (de_lst (da_cons (de_call c__law_same hr (by decide) (by rfl) (da_cons (de_var (i := 9) rfl (.inl rfl)) (da_cons de_int da_nil))) (da_cons (de_var (i := 2) rfl (.inl rfl)) (da_cons (de_var (i := 3) rfl (.inl rfl)) da_nil))))))
  dss_nil)
  (dss_one (ds_ret (de_lst (da_cons (de_call c__law_same hr (by decide) (by rfl) (da_cons (de_var (i := 9) rfl (.inl rfl)) (da_cons de_int da_nil))) (da_cons (de_var (i := 2) rfl (.inl rfl)) (da_cons (de_bin oo_add od_add (de_var (i := 3) rfl (.inl rfl)) (de_lst (da_cons (de_tup (da_cons de_int (da_cons (de_var (i := 10) rfl (.inl rfl)) da_nil))) da_nil))) da_nil)))))))))
  dss_nil)
  (dss_cons (ds_if (dt_cmp op_lt od_lt (de_var (i := 4) rfl (.inl rfl)) de_int (nomark _))
  (dss_cons (ds_set (i := 9) sc__law_deed.nd rfl (.inl rfl) (de_meth (cn := 0) c_File_flush (by show _ ∉ nmI 0; decide +kernel) hr (by decide) (de_var (i := 1) rfl (.inl rfl)) (da_cons (de_var (i := 5) rfl (.inl rfl)) da_nil)))
  (dss_cons (ds_if (dt_cmp (oo_eq hr.units) od_eq (de_var (i := 5) rfl (.inl rfl)) de_int (nomark _))
  (dss_one (ds_ret (de_lst (da_cons (de_call c__law_same hr (by decide) (by rfl) (da_cons (de_var (i := 9) rfl (.inl rfl)) (da_cons de_int da_nil))) (da_cons (de_var (i := 2) rfl (.inl rfl)) (da_cons (de_var (i := 3) rfl (.inl rfl)) da_nil))))))
  dss_nil)
  (dss_one (ds_ret (de_lst (da_cons (de_call c__law_same hr (by decide) (by rfl) (da_cons (de_var (i := 9) rfl (.inl rfl)) (da_cons de_int da_nil))) (da_cons (de_call c__law_after hr (by decide) (by rfl) (da_cons (de_var (i := 2) rfl (.inl rfl)) (da_cons (de_var (i := 3) rfl (.inl rfl)) da_nil))) (da_cons (de_lst da_nil) da_nil))))))))
  dss_nil)
  (dss_cons (ds_set (i := 6) sc__law_deed.nd rfl (.inl rfl) (de_call c__law_next hr (by decide) (by rfl) (da_cons (de_var (i := 0) rfl (.inr (.inl rfl))) (da_cons (de_bin oo_add od_add (de_callB oc_len on_len (by rfl) T.b_len boot_len (da_cons (de_var (i := 3) rfl (.inl rfl)) da_nil)) de_int) da_nil))))
  (dss_cons (ds_expr (de_meth (cn := 0) c_File_lose (by show _ ∉ nmI 0; decide +kernel) hr (by decide) (de_var (i := 1) rfl (.inl rfl)) (da_cons (de_var (i := 6) rfl (.inl rfl)) da_nil)))
  (dss_one (ds_ret (de_lst (da_cons de_bl (da_cons (de_call c__law_after hr (by decide) (by rfl) (da_cons (de_var (i := 2) rfl (.inl rfl)) (da_cons (de_slice (m := false) (de_var (i := 3) rfl (.inl rfl)) do_none (do_some (de_var (i := 6) rfl (.inl rfl)))) da_nil))) (da_cons (de_lst da_nil) da_nil))))))))))))))

theorem sc__applied_M : FnScope ["data", "steps", "result", "name", "number"] ["data", "steps"] (defScope st__applied_M) := ⟨rfl, rfl, rfl, by decide +kernel, rfl, by decide +kernel, by decide +kernel⟩
theorem dv__applied_M {P : Program} {w : World} {K : PySem.W.Frag} {mg : Str → Option Value} {base : Heap} (T : Tab K mg)  {fa : Addr} (cdv : Value) (Ar : Around) (outer : List Env) (s : Shared) (H : Hp) (E : XK) (W0 : Bw)
    (hr : Room 0 (Ar.deeper (envOfC "_applied" (defScope st__applied_M) s.heap.objs.size fa cdv))) :
    DSs (cxOf CX0 P w K mg base ["data", "steps", "result", "name", "number"] "_applied" (defScope st__applied_M) fa cdv Ar outer s H E).nox (cI K) W0 (defBody st__applied_M) (t__applied_M) := by
  unfold t__applied_M
  exact (dss_cons (ds_set (i := 2) sc__applied_M.nd rfl (.inl rfl) (de_callTy call_list_of (on_listOf (m := true)) (by rfl) T.b_list boot_list (da_cons (de_var (i := 0) rfl (.inl rfl)) da_nil)))
  (dss_cons (ds_for PassesOwn.never rfl (di_seq (de_var (i := 1) rfl (.inl rfl))) (dg_tp rfl (dgs_cons (dg_nm (i := 3) sc__applied_M.nd rfl (.inl rfl)) (dgs_cons (dg_nm (i := 4) sc__applied_M.nd rfl (.inl rfl)) dgs_nil)))
  (dss_one (ds_if (dt_cmp (oo_eq hr.units) od_eq (de_var (i := 3) rfl (.inl rfl)) de_str (nomark _))
  (dss_one (ds_expr (de_bm (T := .list) PySem.F.plainAttrs_list PySem.F.slot_list_append PySem.F.type_list_append mt_append om_append (de_var (i := 2) rfl (.inl rfl)) (da_cons (de_var (i := 4) rfl (.inl rfl)) da_nil))))
  (dss_one (ds_set (i := 2) sc__applied_M.nd rfl (.inl rfl) (de_slice (m := true) (de_var (i := 2) rfl (.inl rfl)) do_none (do_some (de_var (i := 4) rfl (.inl rfl)))))))))
  (dss_one (ds_ret (de_var (i := 2) rfl (.inl rfl))))))

theorem sc_File_content_M : FnScope ["self"] ["self"] (defScope st_File_content_M) := ⟨rfl, rfl, rfl, by decide +kernel, rfl, by decide +kernel, by decide +kernel⟩
theorem dv_File_content_M {P : Program} {w : World} {K : PySem.W.Frag} {mg : Str → Option Value} {base : Heap} (T : Tab K mg) (c__applied_M : CalD P w K mg base 1 "_applied" (spD K (cI K) S__applied_M)) {fa : Addr} (cdv : Value) (Ar : Around) (outer : List Env) (s : Shared) (H : Hp) (E : XK) (W0 : Bw)
    (hr : Room 1 (Ar.deeper (envOfC "File.content" (defScope st_File_content_M) s.heap.objs.size fa cdv))) :
    DSs (cxOf CX0 P w K mg base ["self"] "File.content" (defScope st_File_content_M) fa cdv Ar outer s H E).nox (cI K) W0 (defBody st_File_content_M) (t_File_content_M) := by
  unfold t_File_content_M
  exact (dss_one (ds_ret (de_call c__applied_M hr (by decide) (by rfl) (da_cons (de_fld (cn := 0) (i := 0) T.cl_0 T.na_0_0 nd_0 rfl (de_var (i := 0) rfl (.inl rfl))) (da_cons (de_fld (cn := 0) (i := 1) T.cl_0 T.na_0_1 nd_0 rfl (de_var (i := 0) rfl (.inl rfl))) da_nil)))))

theorem sc_law : FnScope ["script", "state", "file", "lasting", "steps", "other", "still", "k", "right"] ["script"] (defScope st_law) := ⟨rfl, rfl, rfl, by decide +kernel, rfl, by decide +kernel, by decide +kernel⟩
theorem dv_law {P : Program} {w : World} {K : PySem.W.Frag} {mg : Str → Option Value} {base : Heap} (T : Tab K mg) (c_File___init__ : MakD P w K mg base 1 "File" ((cI K).ad 0) (spD K (cI K) S_File___init__)) (c_File_content : MetD P w K mg base 2 ((cI K).ad 0) "content" (spD K (cI K) S_File_content)) (c_File_content_M : MetD P w K mg base 2 ((cI K).ad 0) "content" (spD K (cI K) S_File_content_M)) (c_File_flush : MetD P w K mg base 3 ((cI K).ad 0) "flush" (spD K (cI K) S_File_flush)) (c_File_lose : MetD P w K mg base 2 ((cI K).ad 0) "lose" (spD K (cI K) S_File_lose)) (c_File_pending : MetD P w K mg base 1 ((cI K).ad 0) "pending" (spD K (cI K) S_File_pending)) (c_File_write : MetD P w K mg base 1 ((cI K).ad 0) "write" (spD K (cI K) S_File_write)) (c__law_after : CalD P w K mg base 1 "_law_after" (spD K (cI K) S__law_after)) (c__law_deed : CalD P w K mg base 5 "_law_deed" (spD K (cI K) S__law_deed)) (c__law_draws : CalD P w K mg base 2 "_law_draws" (spD K (cI K) S__law_draws)) (c__law_next : CalD P w K mg base 3 "_law_next" (spD K (cI K) S__law_next)) (c__law_same : CalD P w K mg base 4 "_law_same" (spD K (cI K) (S__law_same 3))) {fa : Addr} (cdv : Value) (Ar : Around) (outer : List Env) (s : Shared) (H : Hp) (E : XK) (W0 : Bw)
    (hr : Room 5 (Ar.deeper (envOfC "law" (defScope st_law) s.heap.objs.size fa cdv))) :
    DSs (cxOf CX0 P w K mg base ["script", "state", "file", "lasting", "steps", "other", "still", "k", "right"] "law" (defScope st_law) fa cdv Ar outer s H E).nox (cI K) W0 (defBody st_law) (t_law) := by
  unfold t_law
  exact (dss_cons (ds_set (i := 1) sc_law.nd rfl (.inl rfl) (de_lstM (da_cons (de_call c__law_draws hr (by decide) (by rfl) (da_cons (de_var (i := 0) rfl (.inl rfl)) da_nil)) (da_cons de_int da_nil))))
  (dss_cons (ds_set (i := 2) sc_law.nd rfl (.inl rfl) (de_make0 (cn := 0) c_File___init__ hr (by decide) (by rfl)))
  (dss_cons (ds_set (i := 3) sc_law.nd rfl (.inl rfl) (de_lst da_nil))
  (dss_cons (ds_set (i := 4) sc_law.nd rfl (.inl rfl) (de_lst da_nil))
  (dss_cons (ds_set (i := 5) sc_law.nd rfl (.inl rfl) (de_make0 (cn := 0) c_File___init__ hr (by decide) (by rfl)))
  (dss_cons (ds_set (i := 6) sc_law.nd rfl (.inl rfl) (de_make0 (cn := 0) c_File___init__ hr (by decide) (by rfl)))
  (dss_cons (ds_expr (de_meth (cn := 0) c_File_write (by show _ ∉ nmI 0; decide +kernel) hr (by decide) (de_var (i := 6) rfl (.inl rfl)) (da_cons (de_lst (da_cons de_int (da_cons de_int da_nil))) (da_cons de_non da_nil))))
  (dss_cons (ds_expr (de_meth (cn := 0) c_File_flush (by show _ ∉ nmI 0; decide +kernel) hr (by decide) (de_var (i := 6) rfl (.inl rfl)) (da_cons de_non da_nil)))
  (dss_cons (ds_expr (de_meth (cn := 0) c_File_write (by show _ ∉ nmI 0; decide +kernel) hr (by decide) (de_var (i := 6) rfl (.inl rfl)) (da_cons (de_lst (da_cons de_int da_nil)) (da_cons de_non da_nil))))
  (dss_cons (ds_for PassesOwn.never rfl (di_rng1 (by rfl) T.b_range (da_cons (de_call c__law_next hr (by decide) (by rfl) (da_cons (de_var (i := 1) rfl (.inl rfl)) (da_cons de_int da_nil))) da_nil)) (dg_nm (i := 7) sc_law.nd rfl (.inl rfl))
  (dss_cons (ds_if (dt_cmp (oo_eq hr.units) od_eq (de_call c__law_next hr (by decide) (by rfl) (da_cons (de_var (i := 1) rfl (.inl rfl)) (da_cons de_int da_nil))) de_int (nomark _))
  (dss_cons (ds_expr (de_meth (cn := 0) c_File_write (by show _ ∉ nmI 0; decide +kernel) hr (by decide) (de_var (i := 5) rfl (.inl rfl)) (da_cons (de_lst (da_cons (de_var (i := 7) rfl (.inl rfl)) (da_cons (de_bin oo_add od_add (de_var (i := 7) rfl (.inl rfl)) de_int) (da_cons (de_bin oo_add od_add (de_var (i := 7) rfl (.inl rfl)) de_int) da_nil)))) (da_cons de_non da_nil))))
  (dss_cons (ds_if (dtw_pt (dt_or (dt_not (dt_truth (de_call c__law_same hr (by decide) (by rfl) (da_cons (de_meth0 (cn := 0) c_File_content (by show _ ∉ nmI 0; decide +kernel) hr (by decide) (de_var (i := 5) rfl (.inl rfl))) (da_cons (de_lst (da_cons (de_var (i := 7) rfl (.inl rfl)) (da_cons (de_bin oo_add od_add (de_var (i := 7) rfl (.inl rfl)) de_int) (da_cons (de_bin oo_add od_add (de_var (i := 7) rfl (.inl rfl)) de_int) da_nil)))) da_nil))))) (dt_or1 (dt_not (dt_truth (de_call c__law_same hr (by decide) (by rfl) (da_cons (de_meth0 (cn := 0) c_File_pending (by show _ ∉ nmI 0; decide +kernel) hr (by decide) (de_var (i := 5) rfl (.inl rfl))) (da_cons de_int da_nil))))))))
  (dss_one (ds_ret de_bl))
  dss_nil)
  (dss_cons (ds_set (i := 5) sc_law.nd rfl (.inl rfl) (de_make0 (cn := 0) c_File___init__ hr (by decide) (by rfl)))
  (dss_one (ds_if (dtw_pt (dt_or (dt_cmp (oo_ne hr.units) od_ne (de_meth0 (cn := 0) c_File_content (by show _ ∉ nmI 0; decide +kernel) hr (by decide) (de_var (i := 5) rfl (.inl rfl))) (de_lst da_nil) (nomark _)) (dt_or1 (dt_not (dt_truth (de_call c__law_same hr (by decide) (by rfl) (da_cons (de_meth0 (cn := 0) c_File_pending (by show _ ∉ nmI 0; decide +kernel) hr (by decide) (de_var (i := 5) rfl (.inl rfl))) (da_cons de_int da_nil))))))))
  (dss_one (ds_ret de_bl))
  dss_nil)))))
  dss_nil)
  (dss_cons (ds_asg (de_call c__law_deed hr (by decide) (by rfl) (da_cons (de_var (i := 1) rfl (.inl rfl)) (da_cons (de_var (i := 2) rfl (.inl rfl)) (da_cons (de_var (i := 3) rfl (.inl rfl)) (da_cons (de_var (i := 4) rfl (.inl rfl)) da_nil))))) (dg_ul rfl (dgs_cons (dg_nm (i := 8) sc_law.nd rfl (.inl rfl)) (dgs_cons (dg_nm (i := 3) sc_law.nd rfl (.inl rfl)) (dgs_cons (dg_nm (i := 4) sc_law.nd rfl (.inl rfl)) dgs_nil)))))
  (dss_cons (ds_if (dtw_pt (dt_or (dt_not (dt_truth (de_var (i := 8) rfl (.inl rfl)))) (dt_or1 (dt_not (dt_truth (de_call c__law_same hr (by decide) (by rfl) (da_cons (de_meth0 (cn := 0) c_File_content (by show _ ∉ nmI 0; decide +kernel) hr (by decide) (de_var (i := 2) rfl (.inl rfl))) (da_cons (de_call c__law_after hr (by decide) (by rfl) (da_cons (de_var (i := 3) rfl (.inl rfl)) (da_cons (de_var (i := 4) rfl (.inl rfl)) da_nil))) da_nil))))))))
  (dss_one (ds_ret de_bl))
  dss_nil)
  (dss_cons (ds_if (dt_not (dt_truth (de_call c__law_same hr (by decide) (by rfl) (da_cons (de_meth0 (cn := 0) c_File_pending (by show _ ∉ nmI 0; decide +kernel) hr (by decide) (de_var (i := 2) rfl (.inl rfl))) (da_cons (de_callB oc_len on_len (by rfl) T.b_len boot_len (da_cons (de_var (i := 4) rfl (.inl rfl)) da_nil)) da_nil)))))
  (dss_one (ds_ret de_bl))
  dss_nil)
  (dss_cons (ds_expr (de_bm (T := .list) PySem.F.plainAttrs_list PySem.F.slot_list_append PySem.F.type_list_append mt_append om_append (de_meth0 (cn := 0) c_File_content_M (by show _ ∉ nmI 0; decide +kernel) hr (by decide) (de_var (i := 2) rfl (.inl rfl))) (da_cons de_int da_nil)))
  (dss_one (ds_if (dtw_pt (dt_and (dt_cmp (oo_eq hr.units) od_eq (de_call c__law_next hr (by decide) (by rfl) (da_cons (de_var (i := 1) rfl (.inl rfl)) (da_cons de_int da_nil))) de_int (nomark _)) (dt_and1 (dt_not (dt_truth (de_call c__law_same hr (by decide) (by rfl) (da_cons (de_meth0 (cn := 0) c_File_content (by show _ ∉ nmI 0; decide +kernel) hr (by decide) (de_var (i := 2) rfl (.inl rfl))) (da_cons (de_call c__law_after hr (by decide) (by rfl) (da_cons (de_var (i := 3) rfl (.inl rfl)) (da_cons (de_var (i := 4) rfl (.inl rfl)) da_nil))) da_nil))))))))
  (dss_one (ds_ret de_bl))
  dss_nil))))))))
  (dss_cons (ds_expr (de_meth (cn := 0) c_File_lose (by show _ ∉ nmI 0; decide +kernel) hr (by decide) (de_var (i := 2) rfl (.inl rfl)) (da_cons de_int da_nil)))
  (dss_cons (ds_if (dtw_pt (dt_or (dt_not (dt_truth (de_call c__law_same hr (by decide) (by rfl) (da_cons (de_meth0 (cn := 0) c_File_content (by show _ ∉ nmI 0; decide +kernel) hr (by decide) (de_var (i := 6) rfl (.inl rfl))) (da_cons (de_lst (da_cons de_int (da_cons de_int (da_cons de_int da_nil)))) da_nil))))) (dt_or1 (dt_not (dt_truth (de_call c__law_same hr (by decide) (by rfl) (da_cons (de_meth0 (cn := 0) c_File_pending (by show _ ∉ nmI 0; decide +kernel) hr (by decide) (de_var (i := 6) rfl (.inl rfl))) (da_cons de_int da_nil))))))))
  (dss_one (ds_ret de_bl))
  dss_nil)
  (dss_one (ds_ret (de_andV (de_call c__law_same hr (by decide) (by rfl) (da_cons (de_meth0 (cn := 0) c_File_content (by show _ ∉ nmI 0; decide +kernel) hr (by decide) (de_var (i := 2) rfl (.inl rfl))) (da_cons (de_var (i := 3) rfl (.inl rfl)) da_nil))) (de_one (de_call c__law_same hr (by decide) (by rfl) (da_cons (de_meth0 (cn := 0) c_File_pending (by show _ ∉ nmI 0; decide +kernel) hr (by decide) (de_var (i := 2) rfl (.inl rfl))) (da_cons de_int da_nil)))))))))))))))))))

end K9
set_option Elab.async false
set_option linter.all false
set_option maxRecDepth 100000
set_option maxHeartbeats 1000000
namespace K9
open PySem PySem.Spec PyProof.Rows L2 DW
theorem dI_len {xs : List Int} : (dI xs).length = xs.length := List.length_map _
theorem dI_app {xs ys : List Int} : dI xs ++ dI ys = dI (xs ++ ys) := List.map_append.symm
theorem dI_cut {xs : List Int} {n : Int} : DW.cutD (dI xs) none (some n) = dI (cutI xs n) := by
  unfold DW.cutD cutI dI
  rw [List.length_map, ← List.map_drop, ← List.map_take]
theorem cut_len {xs : List Int} {n : Int} : (cutI xs n).length ≤ xs.length := by
  unfold cutI
  rw [List.length_take, List.length_drop]
  omega
theorem run_snoc {xs : List Int} {ss : List Stp} {s : Stp} : runS xs (ss ++ [s]) = step (runS xs ss) s := by
  unfold runS
  rw [List.foldl_append]
  rfl
theorem step_len {xs : List Int} : ∀ {s : Stp}, (step xs s).length ≤ xs.length + 1
  | .app b => by simp [step]
  | .cut n => Nat.le_succ_of_le cut_len
theorem run_len {ss : List Stp} : ∀ {xs : List Int}, (runS xs ss).length ≤ xs.length + ss.length := by
  induction ss with
  | nil => intro xs; exact Nat.le_refl _
  | cons s ss ih =>
    intro xs
    have := @ih (step xs s)
    have h2 := @step_len xs s
    show (runS (step xs s) ss).length ≤ _
    rw [List.length_cons]
    omega
theorem tr_ap : (("truncate" : Str) = "append") = False := by simp only [eq_iff_iff, iff_false]; decide +kernel
theorem applied_loop {a : A} {D' : Dn} {ok : A → Prop} {d1 d2 : D} {xs : List Int} {ss : List Stp} (h2 : vwL a d2 = some (ss.map encF)) (hf : Fits (xs.length + ss.length)) (hok : ∀ a', vwL a' d2 = some (ss.map encF) → ok a')
    (hend : ∀ (g : A) (m : Nat) (x y : Option D), g[m]? = some (.lst (dI (runS xs ss))) → (∀ ao ∈ g, ∃ zs, ao = .lst (dI zs)) → D'.nx [some d1, some d2, some (.loc (a.length + m)), x, y] (a ++ g)) :
    forW ok (.tp [.nm 3, .nm 4]) (sIf (wTest (wOp rEq (wVar 3) (wC (.str "append")))) (sExp (wBM .list rAppend (wVar 2) (wCons (wVar 4) wNil))) (sSet 2 (wSl true (wVar 2) wNoPart (wPart (wVar 4))))) D'
      (ss.map encF) [some d1, some d2, some (.loc a.length), none, none] (a ++ [.lst (dI xs)]) := by
  refine forW_inv (I := fun i ρ a' => ∃ (g : A) (m : Nat) (x y : Option D), a' = a ++ g ∧ ρ = [some d1, some d2, some (.loc (a.length + m)), x, y] ∧ g[m]? = some (.lst (dI (runS xs (ss.take i)))) ∧ ∀ ao ∈ g, ∃ zs, ao = .lst (dI zs)) ?_ ?_ ?_ ?_
  · rintro i ρ a' ⟨g, m, x, y, rfl, rfl, hg, hz⟩
    exact hok _ (vwL_app h2)
  · rintro i d ρ a' M hd ⟨g, m, x, y, rfl, rfl, hg, hz⟩ hM
    obtain ⟨s, hs, rfl⟩ := map_get hd
    have hi : i < ss.length := (List.getElem?_eq_some_iff.1 hs).1
    have hrun : runS xs (ss.take (i + 1)) = step (runS xs (ss.take i)) s := by rw [take_snoc hs, run_snoc]
    have hl : (runS xs (ss.take i)).length ≤ xs.length + i := by
      have := @run_len (ss.take i) xs
      rw [List.length_take] at this
      omega
    have hgm : (a ++ g)[a.length + m]? = some (.lst (dI (runS xs (ss.take i)))) := getA.trans hg
    have hmg : m < g.length := (List.getElem?_eq_some_iff.1 hg).1
    cases s with
    | app b =>
      refine ⟨_, rfl, ?_⟩
      simp only [e_var, e_C, e_op, e_un, e_test, e_tru, e_and, e_or, e_not, e_andV, e_orV, e_notV, e_if, e_nil, e_cons, e_lst, e_lstM, e_tup, e_N, e_R1, e_R2, e_call, e_meth, e_make, e_fld, e_bm, e_noPart, e_part, e_sl, e_yes, e_lc, e_seqI, e_goL, e_goScr, e_rng1, e_rng2, e_next, e_seq, e_set, e_asg, e_exp, e_ret, e_retN, e_sif, e_brk, e_cnt, e_sub, e_augsub, e_aug, e_sfld, e_augfld, e_for, e_chain, e_add, e_addI, e_addL, e_addT, e_addS, e_subI, e_mul, e_mulI, e_fdiv, e_mod, e_pow, e_shl, e_shr, e_band, e_bor, e_bxor, e_lt, e_le, e_gt, e_ge, e_neg, e_eqI, e_neI, e_eqS, e_neS, e_eqB, e_neB, e_eqNI, e_neNI, e_isNN, e_isIN, e_isSN, e_isBN, e_isTN, e_isLN, e_isON, e_isntNN, e_isntIN, e_isntSN, e_isntTN, e_isntLN, e_isntON, e_min2, e_max2, e_int1, e_int1b, e_lenL, e_lenT, e_lenKT, e_lenS, e_lenScr, e_listL, e_listT, e_outT, e_outF, e_slL, e_slT, e_ixL, e_ixT, e_ixKT, e_ixScr, e_isi1, e_isi2, e_tyN, e_tyB, e_tyI, e_tyS, e_tyL, e_tyT, e_tyKT, e_k_NoneType_int, e_k_NoneType_bool, e_k_NoneType_str, e_k_NoneType_list, e_k_NoneType_tuple, e_k_NoneType_dict, e_k_bool_int, e_k_bool_bool, e_k_bool_str, e_k_bool_list, e_k_bool_tuple, e_k_bool_dict, e_k_int_int, e_k_int_bool, e_k_int_str, e_k_int_list, e_k_int_tuple, e_k_int_dict, e_k_str_int, e_k_str_bool, e_k_str_str, e_k_str_list, e_k_str_tuple, e_k_str_dict, e_k_list_int, e_k_list_bool, e_k_list_str, e_k_list_list, e_k_list_tuple, e_k_list_dict, e_k_tuple_int, e_k_tuple_bool, e_k_tuple_str, e_k_tuple_list, e_k_tuple_tuple, e_k_tuple_dict, e_k_dict_int, e_k_dict_bool, e_k_dict_str, e_k_dict_list, e_k_dict_tuple, e_k_dict_dict, List.getElem?_cons_zero, List.getElem?_cons_succ, List.set_cons_zero, List.set_cons_succ, decide_true, decide_false, Bool.not_true, Bool.not_false, if_true, if_false, ite_true, ite_false, Bool.false_eq_true, true_and, and_true, truD, eq_self, Int.zero_add, e_isL hgm, e_append hgm, dI_len]
      refine ⟨hf.of (by omega), hM _ _ ⟨g.set m (.lst (dI (runS xs (ss.take i)) ++ [.int b])), m, _, _, setA, rfl, ?_, ?_⟩⟩
      · rw [List.getElem?_set_self hmg, hrun]
        exact congrArg (fun z => some (AO.lst z)) (dI_app (ys := [b]))
      · intro ao h
        rcases List.mem_or_eq_of_mem_set h with h | rfl
        · exact hz _ h
        · exact ⟨_, congrArg AO.lst (dI_app (ys := [b]))⟩
    | cut n =>
      refine ⟨_, rfl, ?_⟩
      simp only [e_var, e_C, e_op, e_un, e_test, e_tru, e_and, e_or, e_not, e_andV, e_orV, e_notV, e_if, e_nil, e_cons, e_lst, e_lstM, e_tup, e_N, e_R1, e_R2, e_call, e_meth, e_make, e_fld, e_bm, e_noPart, e_part, e_sl, e_yes, e_lc, e_seqI, e_goL, e_goScr, e_rng1, e_rng2, e_next, e_seq, e_set, e_asg, e_exp, e_ret, e_retN, e_sif, e_brk, e_cnt, e_sub, e_augsub, e_aug, e_sfld, e_augfld, e_for, e_chain, e_add, e_addI, e_addL, e_addT, e_addS, e_subI, e_mul, e_mulI, e_fdiv, e_mod, e_pow, e_shl, e_shr, e_band, e_bor, e_bxor, e_lt, e_le, e_gt, e_ge, e_neg, e_eqI, e_neI, e_eqS, e_neS, e_eqB, e_neB, e_eqNI, e_neNI, e_isNN, e_isIN, e_isSN, e_isBN, e_isTN, e_isLN, e_isON, e_isntNN, e_isntIN, e_isntSN, e_isntTN, e_isntLN, e_isntON, e_min2, e_max2, e_int1, e_int1b, e_lenL, e_lenT, e_lenKT, e_lenS, e_lenScr, e_listL, e_listT, e_outT, e_outF, e_slL, e_slT, e_ixL, e_ixT, e_ixKT, e_ixScr, e_isi1, e_isi2, e_tyN, e_tyB, e_tyI, e_tyS, e_tyL, e_tyT, e_tyKT, e_k_NoneType_int, e_k_NoneType_bool, e_k_NoneType_str, e_k_NoneType_list, e_k_NoneType_tuple, e_k_NoneType_dict, e_k_bool_int, e_k_bool_bool, e_k_bool_str, e_k_bool_list, e_k_bool_tuple, e_k_bool_dict, e_k_int_int, e_k_int_bool, e_k_int_str, e_k_int_list, e_k_int_tuple, e_k_int_dict, e_k_str_int, e_k_str_bool, e_k_str_str, e_k_str_list, e_k_str_tuple, e_k_str_dict, e_k_list_int, e_k_list_bool, e_k_list_str, e_k_list_list, e_k_list_tuple, e_k_list_dict, e_k_tuple_int, e_k_tuple_bool, e_k_tuple_str, e_k_tuple_list, e_k_tuple_tuple, e_k_tuple_dict, e_k_dict_int, e_k_dict_bool, e_k_dict_str, e_k_dict_list, e_k_dict_tuple, e_k_dict_dict, List.getElem?_cons_zero, List.getElem?_cons_succ, List.set_cons_zero, List.set_cons_succ, decide_true, decide_false, Bool.not_true, Bool.not_false, if_true, if_false, ite_true, ite_false, Bool.false_eq_true, true_and, and_true, truD, eq_self, Int.zero_add, tr_ap, e_slO hgm, dI_len, dI_cut]
      refine ⟨hf.of (by omega), hM _ _ ⟨g ++ [.lst (dI (cutI (runS xs (ss.take i)) n))], g.length, some (.str "truncate"), some (.int n), List.append_assoc .., ?_, ?_, ?_⟩⟩
      · rw [List.length_append]
      · rw [List.getElem?_concat_length, hrun]
        rfl
      · intro ao h
        rcases List.mem_append.1 h with h | h
        · exact hz _ h
        · exact ⟨_, List.mem_singleton.1 h⟩
  · rintro ρ a' ⟨g, m, x, y, rfl, rfl, hg, hz⟩
    rw [List.length_map, List.take_length] at hg
    exact hend g m x y hg hz
  · exact ⟨[.lst (dI xs)], 0, none, none, rfl, rfl, rfl, fun ao h => ⟨_, List.mem_singleton.1 h⟩⟩
theorem bd_dI {n : Nat} {xs : List Int} : D.bds n (dI xs) := bds_ints
theorem rd__applied {ds : List D} {a : A} {Q : DQ} {E : Exq} (h : S__applied ds a Q E) : t__applied { nx := fun _ a' => Ret a Q .non a', rt := Ret a Q } (startD ["data", "steps", "result", "name", "number"] ds) a := by
  obtain ⟨d1, d2, xs, ss, rfl, h1, h2, hf, q⟩ := h
  show t__applied _ [some d1, some d2, none, none, none] a
  unfold t__applied
  refine seqG fun M hM => ?_
  simp only [e_var, e_C, e_op, e_un, e_test, e_tru, e_and, e_or, e_not, e_andV, e_orV, e_notV, e_if, e_nil, e_cons, e_lst, e_lstM, e_tup, e_N, e_R1, e_R2, e_call, e_meth, e_make, e_fld, e_bm, e_noPart, e_part, e_sl, e_yes, e_lc, e_seqI, e_goL, e_goScr, e_rng1, e_rng2, e_next, e_seq, e_set, e_asg, e_exp, e_ret, e_retN, e_sif, e_brk, e_cnt, e_sub, e_augsub, e_aug, e_sfld, e_augfld, e_for, e_chain, e_add, e_addI, e_addL, e_addT, e_addS, e_subI, e_mul, e_mulI, e_fdiv, e_mod, e_pow, e_shl, e_shr, e_band, e_bor, e_bxor, e_lt, e_le, e_gt, e_ge, e_neg, e_eqI, e_neI, e_eqS, e_neS, e_eqB, e_neB, e_eqNI, e_neNI, e_isNN, e_isIN, e_isSN, e_isBN, e_isTN, e_isLN, e_isON, e_isntNN, e_isntIN, e_isntSN, e_isntTN, e_isntLN, e_isntON, e_min2, e_max2, e_int1, e_int1b, e_lenL, e_lenT, e_lenKT, e_lenS, e_lenScr, e_listL, e_listT, e_outT, e_outF, e_slL, e_slT, e_ixL, e_ixT, e_ixKT, e_ixScr, e_isi1, e_isi2, e_tyN, e_tyB, e_tyI, e_tyS, e_tyL, e_tyT, e_tyKT, e_k_NoneType_int, e_k_NoneType_bool, e_k_NoneType_str, e_k_NoneType_list, e_k_NoneType_tuple, e_k_NoneType_dict, e_k_bool_int, e_k_bool_bool, e_k_bool_str, e_k_bool_list, e_k_bool_tuple, e_k_bool_dict, e_k_int_int, e_k_int_bool, e_k_int_str, e_k_int_list, e_k_int_tuple, e_k_int_dict, e_k_str_int, e_k_str_bool, e_k_str_str, e_k_str_list, e_k_str_tuple, e_k_str_dict, e_k_list_int, e_k_list_bool, e_k_list_str, e_k_list_list, e_k_list_tuple, e_k_list_dict, e_k_tuple_int, e_k_tuple_bool, e_k_tuple_str, e_k_tuple_list, e_k_tuple_tuple, e_k_tuple_dict, e_k_dict_int, e_k_dict_bool, e_k_dict_str, e_k_dict_list, e_k_dict_tuple, e_k_dict_dict, List.getElem?_cons_zero, List.getElem?_cons_succ, List.set_cons_zero, List.set_cons_succ, decide_true, decide_false, Bool.not_true, Bool.not_false, if_true, if_false, ite_true, ite_false, Bool.false_eq_true, true_and, and_true, truD, eq_self, Int.zero_add, e_listV h1, dI_len]
  refine ⟨hf.of (by omega), ?_⟩
  subst hM
  refine seqG fun M hM => ?_
  simp only [e_var, e_C, e_op, e_un, e_test, e_tru, e_and, e_or, e_not, e_andV, e_orV, e_notV, e_if, e_nil, e_cons, e_lst, e_lstM, e_tup, e_N, e_R1, e_R2, e_call, e_meth, e_make, e_fld, e_bm, e_noPart, e_part, e_sl, e_yes, e_lc, e_seqI, e_goL, e_goScr, e_rng1, e_rng2, e_next, e_seq, e_set, e_asg, e_exp, e_ret, e_retN, e_sif, e_brk, e_cnt, e_sub, e_augsub, e_aug, e_sfld, e_augfld, e_for, e_chain, e_add, e_addI, e_addL, e_addT, e_addS, e_subI, e_mul, e_mulI, e_fdiv, e_mod, e_pow, e_shl, e_shr, e_band, e_bor, e_bxor, e_lt, e_le, e_gt, e_ge, e_neg, e_eqI, e_neI, e_eqS, e_neS, e_eqB, e_neB, e_eqNI, e_neNI, e_isNN, e_isIN, e_isSN, e_isBN, e_isTN, e_isLN, e_isON, e_isntNN, e_isntIN, e_isntSN, e_isntTN, e_isntLN, e_isntON, e_min2, e_max2, e_int1, e_int1b, e_lenL, e_lenT, e_lenKT, e_lenS, e_lenScr, e_listL, e_listT, e_outT, e_outF, e_slL, e_slT, e_ixL, e_ixT, e_ixKT, e_ixScr, e_isi1, e_isi2, e_tyN, e_tyB, e_tyI, e_tyS, e_tyL, e_tyT, e_tyKT, e_k_NoneType_int, e_k_NoneType_bool, e_k_NoneType_str, e_k_NoneType_list, e_k_NoneType_tuple, e_k_NoneType_dict, e_k_bool_int, e_k_bool_bool, e_k_bool_str, e_k_bool_list, e_k_bool_tuple, e_k_bool_dict, e_k_int_int, e_k_int_bool, e_k_int_str, e_k_int_list, e_k_int_tuple, e_k_int_dict, e_k_str_int, e_k_str_bool, e_k_str_str, e_k_str_list, e_k_str_tuple, e_k_str_dict, e_k_list_int, e_k_list_bool, e_k_list_str, e_k_list_list, e_k_list_tuple, e_k_list_dict, e_k_tuple_int, e_k_tuple_bool, e_k_tuple_str, e_k_tuple_list, e_k_tuple_tuple, e_k_tuple_dict, e_k_dict_int, e_k_dict_bool, e_k_dict_str, e_k_dict_list, e_k_dict_tuple, e_k_dict_dict, List.getElem?_cons_zero, List.getElem?_cons_succ, List.set_cons_zero, List.set_cons_succ, decide_true, decide_false, Bool.not_true, Bool.not_false, if_true, if_false, ite_true, ite_false, Bool.false_eq_true, true_and, and_true, truD, eq_self, Int.zero_add]
  refine seqV (vwL_app h2) fun ok hok => applied_loop h2 hf hok fun g m x y hg hz => ?_
  subst hM
  have hgm : (a ++ g)[a.length + m]? = some (.lst (dI (runS xs ss))) := getA.trans hg
  simp only [e_ret]
  rw [e_frz (k := a.length + m) rfl hgm, dI_len]
  refine ⟨hf.of run_len, ?_⟩
  rw [setA]
  exact .pre bd_dI q
theorem rd__applied_M {ds : List D} {a : A} {Q : DQ} {E : Exq} (h : S__applied_M ds a Q E) : t__applied_M { nx := fun _ a' => Ret a Q .non a', rt := Ret a Q } (startD ["data", "steps", "result", "name", "number"] ds) a := by
  obtain ⟨d1, d2, xs, ss, rfl, h1, h2, hf, q⟩ := h
  show t__applied_M _ [some d1, some d2, none, none, none] a
  unfold t__applied_M
  refine seqG fun M hM => ?_
  simp only [e_var, e_C, e_op, e_un, e_test, e_tru, e_and, e_or, e_not, e_andV, e_orV, e_notV, e_if, e_nil, e_cons, e_lst, e_lstM, e_tup, e_N, e_R1, e_R2, e_call, e_meth, e_make, e_fld, e_bm, e_noPart, e_part, e_sl, e_yes, e_lc, e_seqI, e_goL, e_goScr, e_rng1, e_rng2, e_next, e_seq, e_set, e_asg, e_exp, e_ret, e_retN, e_sif, e_brk, e_cnt, e_sub, e_augsub, e_aug, e_sfld, e_augfld, e_for, e_chain, e_add, e_addI, e_addL, e_addT, e_addS, e_subI, e_mul, e_mulI, e_fdiv, e_mod, e_pow, e_shl, e_shr, e_band, e_bor, e_bxor, e_lt, e_le, e_gt, e_ge, e_neg, e_eqI, e_neI, e_eqS, e_neS, e_eqB, e_neB, e_eqNI, e_neNI, e_isNN, e_isIN, e_isSN, e_isBN, e_isTN, e_isLN, e_isON, e_isntNN, e_isntIN, e_isntSN, e_isntTN, e_isntLN, e_isntON, e_min2, e_max2, e_int1, e_int1b, e_lenL, e_lenT, e_lenKT, e_lenS, e_lenScr, e_listL, e_listT, e_outT, e_outF, e_slL, e_slT, e_ixL, e_ixT, e_ixKT, e_ixScr, e_isi1, e_isi2, e_tyN, e_tyB, e_tyI, e_tyS, e_tyL, e_tyT, e_tyKT, e_k_NoneType_int, e_k_NoneType_bool, e_k_NoneType_str, e_k_NoneType_list, e_k_NoneType_tuple, e_k_NoneType_dict, e_k_bool_int, e_k_bool_bool, e_k_bool_str, e_k_bool_list, e_k_bool_tuple, e_k_bool_dict, e_k_int_int, e_k_int_bool, e_k_int_str, e_k_int_list, e_k_int_tuple, e_k_int_dict, e_k_str_int, e_k_str_bool, e_k_str_str, e_k_str_list, e_k_str_tuple, e_k_str_dict, e_k_list_int, e_k_list_bool, e_k_list_str, e_k_list_list, e_k_list_tuple, e_k_list_dict, e_k_tuple_int, e_k_tuple_bool, e_k_tuple_str, e_k_tuple_list, e_k_tuple_tuple, e_k_tuple_dict, e_k_dict_int, e_k_dict_bool, e_k_dict_str, e_k_dict_list, e_k_dict_tuple, e_k_dict_dict, List.getElem?_cons_zero, List.getElem?_cons_succ, List.set_cons_zero, List.set_cons_succ, decide_true, decide_false, Bool.not_true, Bool.not_false, if_true, if_false, ite_true, ite_false, Bool.false_eq_true, true_and, and_true, truD, eq_self, Int.zero_add, e_listV h1, dI_len]
  refine ⟨hf.of (by omega), ?_⟩
  subst hM
  refine seqG fun M hM => ?_
  simp only [e_var, e_C, e_op, e_un, e_test, e_tru, e_and, e_or, e_not, e_andV, e_orV, e_notV, e_if, e_nil, e_cons, e_lst, e_lstM, e_tup, e_N, e_R1, e_R2, e_call, e_meth, e_make, e_fld, e_bm, e_noPart, e_part, e_sl, e_yes, e_lc, e_seqI, e_goL, e_goScr, e_rng1, e_rng2, e_next, e_seq, e_set, e_asg, e_exp, e_ret, e_retN, e_sif, e_brk, e_cnt, e_sub, e_augsub, e_aug, e_sfld, e_augfld, e_for, e_chain, e_add, e_addI, e_addL, e_addT, e_addS, e_subI, e_mul, e_mulI, e_fdiv, e_mod, e_pow, e_shl, e_shr, e_band, e_bor, e_bxor, e_lt, e_le, e_gt, e_ge, e_neg, e_eqI, e_neI, e_eqS, e_neS, e_eqB, e_neB, e_eqNI, e_neNI, e_isNN, e_isIN, e_isSN, e_isBN, e_isTN, e_isLN, e_isON, e_isntNN, e_isntIN, e_isntSN, e_isntTN, e_isntLN, e_isntON, e_min2, e_max2, e_int1, e_int1b, e_lenL, e_lenT, e_lenKT, e_lenS, e_lenScr, e_listL, e_listT, e_outT, e_outF, e_slL, e_slT, e_ixL, e_ixT, e_ixKT, e_ixScr, e_isi1, e_isi2, e_tyN, e_tyB, e_tyI, e_tyS, e_tyL, e_tyT, e_tyKT, e_k_NoneType_int, e_k_NoneType_bool, e_k_NoneType_str, e_k_NoneType_list, e_k_NoneType_tuple, e_k_NoneType_dict, e_k_bool_int, e_k_bool_bool, e_k_bool_str, e_k_bool_list, e_k_bool_tuple, e_k_bool_dict, e_k_int_int, e_k_int_bool, e_k_int_str, e_k_int_list, e_k_int_tuple, e_k_int_dict, e_k_str_int, e_k_str_bool, e_k_str_str, e_k_str_list, e_k_str_tuple, e_k_str_dict, e_k_list_int, e_k_list_bool, e_k_list_str, e_k_list_list, e_k_list_tuple, e_k_list_dict, e_k_tuple_int, e_k_tuple_bool, e_k_tuple_str, e_k_tuple_list, e_k_tuple_tuple, e_k_tuple_dict, e_k_dict_int, e_k_dict_bool, e_k_dict_str, e_k_dict_list, e_k_dict_tuple, e_k_dict_dict, List.getElem?_cons_zero, List.getElem?_cons_succ, List.set_cons_zero, List.set_cons_succ, decide_true, decide_false, Bool.not_true, Bool.not_false, if_true, if_false, ite_true, ite_false, Bool.false_eq_true, true_and, and_true, truD, eq_self, Int.zero_add]
  refine seqV (vwL_app h2) fun ok hok => applied_loop h2 hf hok fun g m x y hg hz => ?_
  subst hM
  have hgm : (a ++ g)[a.length + m]? = some (.lst (dI (runS xs ss))) := getA.trans hg
  have hmg : m < g.length := (List.getElem?_eq_some_iff.1 hg).1
  simp only [e_var, e_C, e_op, e_un, e_test, e_tru, e_and, e_or, e_not, e_andV, e_orV, e_notV, e_if, e_nil, e_cons, e_lst, e_lstM, e_tup, e_N, e_R1, e_R2, e_call, e_meth, e_make, e_fld, e_bm, e_noPart, e_part, e_sl, e_yes, e_lc, e_seqI, e_goL, e_goScr, e_rng1, e_rng2, e_next, e_seq, e_set, e_asg, e_exp, e_ret, e_retN, e_sif, e_brk, e_cnt, e_sub, e_augsub, e_aug, e_sfld, e_augfld, e_for, e_chain, e_add, e_addI, e_addL, e_addT, e_addS, e_subI, e_mul, e_mulI, e_fdiv, e_mod, e_pow, e_shl, e_shr, e_band, e_bor, e_bxor, e_lt, e_le, e_gt, e_ge, e_neg, e_eqI, e_neI, e_eqS, e_neS, e_eqB, e_neB, e_eqNI, e_neNI, e_isNN, e_isIN, e_isSN, e_isBN, e_isTN, e_isLN, e_isON, e_isntNN, e_isntIN, e_isntSN, e_isntTN, e_isntLN, e_isntON, e_min2, e_max2, e_int1, e_int1b, e_lenL, e_lenT, e_lenKT, e_lenS, e_lenScr, e_listL, e_listT, e_outT, e_outF, e_slL, e_slT, e_ixL, e_ixT, e_ixKT, e_ixScr, e_isi1, e_isi2, e_tyN, e_tyB, e_tyI, e_tyS, e_tyL, e_tyT, e_tyKT, e_k_NoneType_int, e_k_NoneType_bool, e_k_NoneType_str, e_k_NoneType_list, e_k_NoneType_tuple, e_k_NoneType_dict, e_k_bool_int, e_k_bool_bool, e_k_bool_str, e_k_bool_list, e_k_bool_tuple, e_k_bool_dict, e_k_int_int, e_k_int_bool, e_k_int_str, e_k_int_list, e_k_int_tuple, e_k_int_dict, e_k_str_int, e_k_str_bool, e_k_str_str, e_k_str_list, e_k_str_tuple, e_k_str_dict, e_k_list_int, e_k_list_bool, e_k_list_str, e_k_list_list, e_k_list_tuple, e_k_list_dict, e_k_tuple_int, e_k_tuple_bool, e_k_tuple_str, e_k_tuple_list, e_k_tuple_tuple, e_k_tuple_dict, e_k_dict_int, e_k_dict_bool, e_k_dict_str, e_k_dict_list, e_k_dict_tuple, e_k_dict_dict, List.getElem?_cons_zero, List.getElem?_cons_succ, List.set_cons_zero, List.set_cons_succ, decide_true, decide_false, Bool.not_true, Bool.not_false, if_true, if_false, ite_true, ite_false, Bool.false_eq_true, true_and, and_true, truD, eq_self, Int.zero_add]
  refine .all (by rw [List.length_append]; omega) (fun i ao h => ?_) (by show _ < _; rw [List.length_append]; omega) (q g m hg hz)
  by_cases hi : i < a.length
  · rw [List.getElem?_append_left hi] at h; exact .inl h
  · rw [List.getElem?_append_right (by omega)] at h
    obtain ⟨zs, rfl⟩ := hz ao (List.mem_of_getElem? h)
    exact .inr bd_dI
/-! ## the class -/
theorem rd_File___init__ {ds : List D} {a : A} {Q : DQ} {E : Exq} (h : S_File___init__ ds a Q E) : t_File___init__ { nx := fun _ a' => Ret a Q .non a', rt := Ret a Q } (startD ["self"] ds) a := by
  obtain ⟨n, rfl, hn, q⟩ := h
  have hlt : n < a.length := (List.getElem?_eq_some_iff.1 hn).1
  show t_File___init__ _ [some (.loc n)] a
  unfold t_File___init__
  refine seqG fun M hM => ?_
  simp only [e_var, e_C, e_op, e_un, e_test, e_tru, e_and, e_or, e_not, e_andV, e_orV, e_notV, e_if, e_nil, e_cons, e_lst, e_lstM, e_tup, e_N, e_R1, e_R2, e_call, e_meth, e_make, e_fld, e_bm, e_noPart, e_part, e_sl, e_yes, e_lc, e_seqI, e_goL, e_goScr, e_rng1, e_rng2, e_next, e_seq, e_set, e_asg, e_exp, e_ret, e_retN, e_sif, e_brk, e_cnt, e_sub, e_augsub, e_aug, e_sfld, e_augfld, e_for, e_chain, e_add, e_addI, e_addL, e_addT, e_addS, e_subI, e_mul, e_mulI, e_fdiv, e_mod, e_pow, e_shl, e_shr, e_band, e_bor, e_bxor, e_lt, e_le, e_gt, e_ge, e_neg, e_eqI, e_neI, e_eqS, e_neS, e_eqB, e_neB, e_eqNI, e_neNI, e_isNN, e_isIN, e_isSN, e_isBN, e_isTN, e_isLN, e_isON, e_isntNN, e_isntIN, e_isntSN, e_isntTN, e_isntLN, e_isntON, e_min2, e_max2, e_int1, e_int1b, e_lenL, e_lenT, e_lenKT, e_lenS, e_lenScr, e_listL, e_listT, e_outT, e_outF, e_slL, e_slT, e_ixL, e_ixT, e_ixKT, e_ixScr, e_isi1, e_isi2, e_tyN, e_tyB, e_tyI, e_tyS, e_tyL, e_tyT, e_tyKT, e_k_NoneType_int, e_k_NoneType_bool, e_k_NoneType_str, e_k_NoneType_list, e_k_NoneType_tuple, e_k_NoneType_dict, e_k_bool_int, e_k_bool_bool, e_k_bool_str, e_k_bool_list, e_k_bool_tuple, e_k_bool_dict, e_k_int_int, e_k_int_bool, e_k_int_str, e_k_int_list, e_k_int_tuple, e_k_int_dict, e_k_str_int, e_k_str_bool, e_k_str_str, e_k_str_list, e_k_str_tuple, e_k_str_dict, e_k_list_int, e_k_list_bool, e_k_list_str, e_k_list_list, e_k_list_tuple, e_k_list_dict, e_k_tuple_int, e_k_tuple_bool, e_k_tuple_str, e_k_tuple_list, e_k_tuple_tuple, e_k_tuple_dict, e_k_dict_int, e_k_dict_bool, e_k_dict_str, e_k_dict_list, e_k_dict_tuple, e_k_dict_dict, List.getElem?_cons_zero, List.getElem?_cons_succ, List.set_cons_zero, List.set_cons_succ, decide_true, decide_false, Bool.not_true, Bool.not_false, if_true, if_false, ite_true, ite_false, Bool.false_eq_true, true_and, and_true, truD, eq_self, Int.zero_add, e_objV hn]
  refine ⟨fits_small (by simp), Nat.zero_le _, ?_⟩
  subst hM
  have h1 : setFld a n 0 0 [] (.lst []) = a.set n (.obj 0 [.lst []]) := rfl
  rw [h1]
  have hn2 : (a.set n (.obj 0 [.lst []]) ++ [AO.lst []])[n]? = some (.obj 0 [.lst []]) := by
    rw [List.getElem?_append_left (by rw [List.length_set]; exact hlt), List.getElem?_set_self hlt]
  simp only [e_var, e_C, e_op, e_un, e_test, e_tru, e_and, e_or, e_not, e_andV, e_orV, e_notV, e_if, e_nil, e_cons, e_lst, e_lstM, e_tup, e_N, e_R1, e_R2, e_call, e_meth, e_make, e_fld, e_bm, e_noPart, e_part, e_sl, e_yes, e_lc, e_seqI, e_goL, e_goScr, e_rng1, e_rng2, e_next, e_seq, e_set, e_asg, e_exp, e_ret, e_retN, e_sif, e_brk, e_cnt, e_sub, e_augsub, e_aug, e_sfld, e_augfld, e_for, e_chain, e_add, e_addI, e_addL, e_addT, e_addS, e_subI, e_mul, e_mulI, e_fdiv, e_mod, e_pow, e_shl, e_shr, e_band, e_bor, e_bxor, e_lt, e_le, e_gt, e_ge, e_neg, e_eqI, e_neI, e_eqS, e_neS, e_eqB, e_neB, e_eqNI, e_neNI, e_isNN, e_isIN, e_isSN, e_isBN, e_isTN, e_isLN, e_isON, e_isntNN, e_isntIN, e_isntSN, e_isntTN, e_isntLN, e_isntON, e_min2, e_max2, e_int1, e_int1b, e_lenL, e_lenT, e_lenKT, e_lenS, e_lenScr, e_listL, e_listT, e_outT, e_outF, e_slL, e_slT, e_ixL, e_ixT, e_ixKT, e_ixScr, e_isi1, e_isi2, e_tyN, e_tyB, e_tyI, e_tyS, e_tyL, e_tyT, e_tyKT, e_k_NoneType_int, e_k_NoneType_bool, e_k_NoneType_str, e_k_NoneType_list, e_k_NoneType_tuple, e_k_NoneType_dict, e_k_bool_int, e_k_bool_bool, e_k_bool_str, e_k_bool_list, e_k_bool_tuple, e_k_bool_dict, e_k_int_int, e_k_int_bool, e_k_int_str, e_k_int_list, e_k_int_tuple, e_k_int_dict, e_k_str_int, e_k_str_bool, e_k_str_str, e_k_str_list, e_k_str_tuple, e_k_str_dict, e_k_list_int, e_k_list_bool, e_k_list_str, e_k_list_list, e_k_list_tuple, e_k_list_dict, e_k_tuple_int, e_k_tuple_bool, e_k_tuple_str, e_k_tuple_list, e_k_tuple_tuple, e_k_tuple_dict, e_k_dict_int, e_k_dict_bool, e_k_dict_str, e_k_dict_list, e_k_dict_tuple, e_k_dict_dict, List.getElem?_cons_zero, List.getElem?_cons_succ, List.set_cons_zero, List.set_cons_succ, decide_true, decide_false, Bool.not_true, Bool.not_false, if_true, if_false, ite_true, ite_false, Bool.false_eq_true, true_and, and_true, truD, eq_self, Int.zero_add, e_objV hn2]
  refine ⟨fits_small (by simp), Nat.le_refl _, ?_⟩
  have h2 : setFld (a.set n (.obj 0 [.lst []]) ++ [AO.lst []]) n 0 1 [.lst []] (.loc (a.set n (.obj 0 [.lst []])).length) = a.set n (.obj 0 [.lst (dI []), .loc a.length]) ++ [AO.lst []] := by
    show (a.set n (.obj 0 [.lst []]) ++ [AO.lst []]).set n (.obj 0 [.lst [], .loc _]) = _
    rw [setB (by rw [List.length_set]; exact hlt), List.set_set, List.length_set]
    rfl
  rw [h2]
  refine .gd (by rw [List.length_append, List.length_set]; omega) (.app1 (.set .refl ?_) True.intro) True.intro q
  exact ⟨True.intro, by show a.length < _; rw [List.length_append, List.length_set]; simp, True.intro⟩
theorem bd_encF {n : Nat} {ss : List Stp} : D.bds n (ss.map encF) := bds_all fun d h => by
  obtain ⟨x, _, rfl⟩ := List.mem_map.1 h
  cases x <;> exact ⟨True.intro, True.intro, True.intro⟩
theorem bd_encL {n : Nat} {ss : List Stp} : D.bds n (ss.map encL) := bds_all fun d h => by
  obtain ⟨x, _, rfl⟩ := List.mem_map.1 h
  cases x <;> exact ⟨True.intro, True.intro, True.intro⟩
theorem FileAt.put {a : A} {n k : Nat} {ls : List Int} {ss : List Stp} (h : FileAt a n k ls ss) : k < a.length := (List.getElem?_eq_some_iff.1 h.2.1).1
theorem limN_le {n : Nat} : ∀ {l : D}, limN n l ≤ n
  | .int l => Nat.min_le_right _ _
  | .non => Nat.le_refl _
  | .bl _ => Nat.le_refl _
  | .str _ => Nat.le_refl _
  | .loc _ => Nat.le_refl _
  | .raw _ => Nat.le_refl _
  | .scr _ => Nat.le_refl _
  | .lst _ => Nat.le_refl _
  | .tup _ => Nat.le_refl _
  | .ktup _ => Nat.le_refl _
  | .dic _ _ _ => Nat.le_refl _
theorem rd_File_write {ds : List D} {a : A} {Q : DQ} {E : Exq} (h : S_File_write ds a Q E) : t_File_write { nx := fun _ a' => Ret a Q .non a', rt := Ret a Q } (startD ["self", "data", "steps", "count", "byte"] ds) a := by
  obtain ⟨n, k, ls, ss, d, xs, l, rfl, hF, hd, hl, hf, q⟩ := h
  obtain ⟨hn, hk, hnk⟩ := hF
  have hc : limN xs.length l ≤ xs.length := limN_le
  generalize hcc : limN xs.length l = c at q hc
  show t_File_write _ [some (.loc n), some d, some l, none, none] a
  unfold t_File_write
  refine seqG fun M hM => ?_
  suffices h : M [some (.loc n), some d, some l, some (.int c), none] a by
    cases l with
    | non =>
      simp only [e_var, e_C, e_op, e_un, e_test, e_tru, e_and, e_or, e_not, e_andV, e_orV, e_notV, e_if, e_nil, e_cons, e_lst, e_lstM, e_tup, e_N, e_R1, e_R2, e_call, e_meth, e_make, e_fld, e_bm, e_noPart, e_part, e_sl, e_yes, e_lc, e_seqI, e_goL, e_goScr, e_rng1, e_rng2, e_next, e_seq, e_set, e_asg, e_exp, e_ret, e_retN, e_sif, e_brk, e_cnt, e_sub, e_augsub, e_aug, e_sfld, e_augfld, e_for, e_chain, e_add, e_addI, e_addL, e_addT, e_addS, e_subI, e_mul, e_mulI, e_fdiv, e_mod, e_pow, e_shl, e_shr, e_band, e_bor, e_bxor, e_lt, e_le, e_gt, e_ge, e_neg, e_eqI, e_neI, e_eqS, e_neS, e_eqB, e_neB, e_eqNI, e_neNI, e_isNN, e_isIN, e_isSN, e_isBN, e_isTN, e_isLN, e_isON, e_isntNN, e_isntIN, e_isntSN, e_isntTN, e_isntLN, e_isntON, e_min2, e_max2, e_int1, e_int1b, e_lenL, e_lenT, e_lenKT, e_lenS, e_lenScr, e_listL, e_listT, e_outT, e_outF, e_slL, e_slT, e_ixL, e_ixT, e_ixKT, e_ixScr, e_isi1, e_isi2, e_tyN, e_tyB, e_tyI, e_tyS, e_tyL, e_tyT, e_tyKT, e_k_NoneType_int, e_k_NoneType_bool, e_k_NoneType_str, e_k_NoneType_list, e_k_NoneType_tuple, e_k_NoneType_dict, e_k_bool_int, e_k_bool_bool, e_k_bool_str, e_k_bool_list, e_k_bool_tuple, e_k_bool_dict, e_k_int_int, e_k_int_bool, e_k_int_str, e_k_int_list, e_k_int_tuple, e_k_int_dict, e_k_str_int, e_k_str_bool, e_k_str_str, e_k_str_list, e_k_str_tuple, e_k_str_dict, e_k_list_int, e_k_list_bool, e_k_list_str, e_k_list_list, e_k_list_tuple, e_k_list_dict, e_k_tuple_int, e_k_tuple_bool, e_k_tuple_str, e_k_tuple_list, e_k_tuple_tuple, e_k_tuple_dict, e_k_dict_int, e_k_dict_bool, e_k_dict_str, e_k_dict_list, e_k_dict_tuple, e_k_dict_dict, List.getElem?_cons_zero, List.getElem?_cons_succ, List.set_cons_zero, List.set_cons_succ, decide_true, decide_false, Bool.not_true, Bool.not_false, if_true, if_false, ite_true, ite_false, Bool.false_eq_true, true_and, and_true, truD, eq_self, Int.zero_add, e_lenV hd, dI_len]
      rw [show c = xs.length from hcc.symm] at h
      exact h
    | int l =>
      simp only [e_var, e_C, e_op, e_un, e_test, e_tru, e_and, e_or, e_not, e_andV, e_orV, e_notV, e_if, e_nil, e_cons, e_lst, e_lstM, e_tup, e_N, e_R1, e_R2, e_call, e_meth, e_make, e_fld, e_bm, e_noPart, e_part, e_sl, e_yes, e_lc, e_seqI, e_goL, e_goScr, e_rng1, e_rng2, e_next, e_seq, e_set, e_asg, e_exp, e_ret, e_retN, e_sif, e_brk, e_cnt, e_sub, e_augsub, e_aug, e_sfld, e_augfld, e_for, e_chain, e_add, e_addI, e_addL, e_addT, e_addS, e_subI, e_mul, e_mulI, e_fdiv, e_mod, e_pow, e_shl, e_shr, e_band, e_bor, e_bxor, e_lt, e_le, e_gt, e_ge, e_neg, e_eqI, e_neI, e_eqS, e_neS, e_eqB, e_neB, e_eqNI, e_neNI, e_isNN, e_isIN, e_isSN, e_isBN, e_isTN, e_isLN, e_isON, e_isntNN, e_isntIN, e_isntSN, e_isntTN, e_isntLN, e_isntON, e_min2, e_max2, e_int1, e_int1b, e_lenL, e_lenT, e_lenKT, e_lenS, e_lenScr, e_listL, e_listT, e_outT, e_outF, e_slL, e_slT, e_ixL, e_ixT, e_ixKT, e_ixScr, e_isi1, e_isi2, e_tyN, e_tyB, e_tyI, e_tyS, e_tyL, e_tyT, e_tyKT, e_k_NoneType_int, e_k_NoneType_bool, e_k_NoneType_str, e_k_NoneType_list, e_k_NoneType_tuple, e_k_NoneType_dict, e_k_bool_int, e_k_bool_bool, e_k_bool_str, e_k_bool_list, e_k_bool_tuple, e_k_bool_dict, e_k_int_int, e_k_int_bool, e_k_int_str, e_k_int_list, e_k_int_tuple, e_k_int_dict, e_k_str_int, e_k_str_bool, e_k_str_str, e_k_str_list, e_k_str_tuple, e_k_str_dict, e_k_list_int, e_k_list_bool, e_k_list_str, e_k_list_list, e_k_list_tuple, e_k_list_dict, e_k_tuple_int, e_k_tuple_bool, e_k_tuple_str, e_k_tuple_list, e_k_tuple_tuple, e_k_tuple_dict, e_k_dict_int, e_k_dict_bool, e_k_dict_str, e_k_dict_list, e_k_dict_tuple, e_k_dict_dict, List.getElem?_cons_zero, List.getElem?_cons_succ, List.set_cons_zero, List.set_cons_succ, decide_true, decide_false, Bool.not_true, Bool.not_false, if_true, if_false, ite_true, ite_false, Bool.false_eq_true, true_and, and_true, truD, eq_self, Int.zero_add, e_lenV hd, dI_len]
      have : (if (xs.length : Int) < l then (xs.length : Int) else l) = c := by
        have h0 : 0 ≤ l := hl
        have h1 : min l.toNat xs.length = c := hcc
        split <;> omega
      rw [this]
      exact h
    | _ => exact hl.elim
  subst hM
  refine seqG fun M hM => ?_
  simp only [e_var, e_C, e_op, e_un, e_test, e_tru, e_and, e_or, e_not, e_andV, e_orV, e_notV, e_if, e_nil, e_cons, e_lst, e_lstM, e_tup, e_N, e_R1, e_R2, e_call, e_meth, e_make, e_fld, e_bm, e_noPart, e_part, e_sl, e_yes, e_lc, e_seqI, e_goL, e_goScr, e_rng1, e_rng2, e_next, e_seq, e_set, e_asg, e_exp, e_ret, e_retN, e_sif, e_brk, e_cnt, e_sub, e_augsub, e_aug, e_sfld, e_augfld, e_for, e_chain, e_add, e_addI, e_addL, e_addT, e_addS, e_subI, e_mul, e_mulI, e_fdiv, e_mod, e_pow, e_shl, e_shr, e_band, e_bor, e_bxor, e_lt, e_le, e_gt, e_ge, e_neg, e_eqI, e_neI, e_eqS, e_neS, e_eqB, e_neB, e_eqNI, e_neNI, e_isNN, e_isIN, e_isSN, e_isBN, e_isTN, e_isLN, e_isON, e_isntNN, e_isntIN, e_isntSN, e_isntTN, e_isntLN, e_isntON, e_min2, e_max2, e_int1, e_int1b, e_lenL, e_lenT, e_lenKT, e_lenS, e_lenScr, e_listL, e_listT, e_outT, e_outF, e_slL, e_slT, e_ixL, e_ixT, e_ixKT, e_ixScr, e_isi1, e_isi2, e_tyN, e_tyB, e_tyI, e_tyS, e_tyL, e_tyT, e_tyKT, e_k_NoneType_int, e_k_NoneType_bool, e_k_NoneType_str, e_k_NoneType_list, e_k_NoneType_tuple, e_k_NoneType_dict, e_k_bool_int, e_k_bool_bool, e_k_bool_str, e_k_bool_list, e_k_bool_tuple, e_k_bool_dict, e_k_int_int, e_k_int_bool, e_k_int_str, e_k_int_list, e_k_int_tuple, e_k_int_dict, e_k_str_int, e_k_str_bool, e_k_str_str, e_k_str_list, e_k_str_tuple, e_k_str_dict, e_k_list_int, e_k_list_bool, e_k_list_str, e_k_list_list, e_k_list_tuple, e_k_list_dict, e_k_tuple_int, e_k_tuple_bool, e_k_tuple_str, e_k_tuple_list, e_k_tuple_tuple, e_k_tuple_dict, e_k_dict_int, e_k_dict_bool, e_k_dict_str, e_k_dict_list, e_k_dict_tuple, e_k_dict_dict, List.getElem?_cons_zero, List.getElem?_cons_succ, List.set_cons_zero, List.set_cons_succ, decide_true, decide_false, Bool.not_true, Bool.not_false, if_true, if_false, ite_true, ite_false, Bool.false_eq_true, true_and, and_true, truD, eq_self, Int.zero_add, e_objV hn, e_isL hk, e_slV hd, dI_len, cut_take (Int.natCast_nonneg c), Int.toNat_natCast]
  refine ⟨hf.of (by omega), ?_⟩
  refine lcW_map (fun d => .tup [.str "append", d]) True.intro (fun d _ _ M h => ⟨_, rfl, ?_⟩) yes_mono (hf.of (by rw [List.length_take, dI_len, List.length_nil]; omega)) ?_
  · simp only [e_var, e_C, e_op, e_un, e_test, e_tru, e_and, e_or, e_not, e_andV, e_orV, e_notV, e_if, e_nil, e_cons, e_lst, e_lstM, e_tup, e_N, e_R1, e_R2, e_call, e_meth, e_make, e_fld, e_bm, e_noPart, e_part, e_sl, e_yes, e_lc, e_seqI, e_goL, e_goScr, e_rng1, e_rng2, e_next, e_seq, e_set, e_asg, e_exp, e_ret, e_retN, e_sif, e_brk, e_cnt, e_sub, e_augsub, e_aug, e_sfld, e_augfld, e_for, e_chain, e_add, e_addI, e_addL, e_addT, e_addS, e_subI, e_mul, e_mulI, e_fdiv, e_mod, e_pow, e_shl, e_shr, e_band, e_bor, e_bxor, e_lt, e_le, e_gt, e_ge, e_neg, e_eqI, e_neI, e_eqS, e_neS, e_eqB, e_neB, e_eqNI, e_neNI, e_isNN, e_isIN, e_isSN, e_isBN, e_isTN, e_isLN, e_isON, e_isntNN, e_isntIN, e_isntSN, e_isntTN, e_isntLN, e_isntON, e_min2, e_max2, e_int1, e_int1b, e_lenL, e_lenT, e_lenKT, e_lenS, e_lenScr, e_listL, e_listT, e_outT, e_outF, e_slL, e_slT, e_ixL, e_ixT, e_ixKT, e_ixScr, e_isi1, e_isi2, e_tyN, e_tyB, e_tyI, e_tyS, e_tyL, e_tyT, e_tyKT, e_k_NoneType_int, e_k_NoneType_bool, e_k_NoneType_str, e_k_NoneType_list, e_k_NoneType_tuple, e_k_NoneType_dict, e_k_bool_int, e_k_bool_bool, e_k_bool_str, e_k_bool_list, e_k_bool_tuple, e_k_bool_dict, e_k_int_int, e_k_int_bool, e_k_int_str, e_k_int_list, e_k_int_tuple, e_k_int_dict, e_k_str_int, e_k_str_bool, e_k_str_str, e_k_str_list, e_k_str_tuple, e_k_str_dict, e_k_list_int, e_k_list_bool, e_k_list_str, e_k_list_list, e_k_list_tuple, e_k_list_dict, e_k_tuple_int, e_k_tuple_bool, e_k_tuple_str, e_k_tuple_list, e_k_tuple_tuple, e_k_tuple_dict, e_k_dict_int, e_k_dict_bool, e_k_dict_str, e_k_dict_list, e_k_dict_tuple, e_k_dict_dict, List.getElem?_cons_zero, List.getElem?_cons_succ, List.set_cons_zero, List.set_cons_succ, decide_true, decide_false, Bool.not_true, Bool.not_false, if_true, if_false, ite_true, ite_false, Bool.false_eq_true, true_and, and_true, truD, eq_self, Int.zero_add, wipeD]
    exact ⟨fits_small (by simp), h⟩
  have e1 : ((dI xs).take c).map (fun d => D.tup [.str "append", d]) = ((xs.take c).map Stp.app).map encF := by
    unfold dI
    rw [← List.map_take, List.map_map, List.map_map]
    rfl
  have hlen : (((xs.take c).map Stp.app).map encF).length ≤ xs.length := by
    rw [List.length_map, List.length_map, List.length_take]; omega
  rw [List.nil_append, e1]
  refine ⟨hf.of (by omega), ?_⟩
  rw [e_extend hk rfl]
  refine ⟨hf.of (by rw [List.length_map]; omega), ?_⟩
  subst hM
  simp only [e_var, e_C, e_op, e_un, e_test, e_tru, e_and, e_or, e_not, e_andV, e_orV, e_notV, e_if, e_nil, e_cons, e_lst, e_lstM, e_tup, e_N, e_R1, e_R2, e_call, e_meth, e_make, e_fld, e_bm, e_noPart, e_part, e_sl, e_yes, e_lc, e_seqI, e_goL, e_goScr, e_rng1, e_rng2, e_next, e_seq, e_set, e_asg, e_exp, e_ret, e_retN, e_sif, e_brk, e_cnt, e_sub, e_augsub, e_aug, e_sfld, e_augfld, e_for, e_chain, e_add, e_addI, e_addL, e_addT, e_addS, e_subI, e_mul, e_mulI, e_fdiv, e_mod, e_pow, e_shl, e_shr, e_band, e_bor, e_bxor, e_lt, e_le, e_gt, e_ge, e_neg, e_eqI, e_neI, e_eqS, e_neS, e_eqB, e_neB, e_eqNI, e_neNI, e_isNN, e_isIN, e_isSN, e_isBN, e_isTN, e_isLN, e_isON, e_isntNN, e_isntIN, e_isntSN, e_isntTN, e_isntLN, e_isntON, e_min2, e_max2, e_int1, e_int1b, e_lenL, e_lenT, e_lenKT, e_lenS, e_lenScr, e_listL, e_listT, e_outT, e_outF, e_slL, e_slT, e_ixL, e_ixT, e_ixKT, e_ixScr, e_isi1, e_isi2, e_tyN, e_tyB, e_tyI, e_tyS, e_tyL, e_tyT, e_tyKT, e_k_NoneType_int, e_k_NoneType_bool, e_k_NoneType_str, e_k_NoneType_list, e_k_NoneType_tuple, e_k_NoneType_dict, e_k_bool_int, e_k_bool_bool, e_k_bool_str, e_k_bool_list, e_k_bool_tuple, e_k_bool_dict, e_k_int_int, e_k_int_bool, e_k_int_str, e_k_int_list, e_k_int_tuple, e_k_int_dict, e_k_str_int, e_k_str_bool, e_k_str_str, e_k_str_list, e_k_str_tuple, e_k_str_dict, e_k_list_int, e_k_list_bool, e_k_list_str, e_k_list_list, e_k_list_tuple, e_k_list_dict, e_k_tuple_int, e_k_tuple_bool, e_k_tuple_str, e_k_tuple_list, e_k_tuple_tuple, e_k_tuple_dict, e_k_dict_int, e_k_dict_bool, e_k_dict_str, e_k_dict_list, e_k_dict_tuple, e_k_dict_dict, List.getElem?_cons_zero, List.getElem?_cons_succ, List.set_cons_zero, List.set_cons_succ, decide_true, decide_false, Bool.not_true, Bool.not_false, if_true, if_false, ite_true, ite_false, Bool.false_eq_true, true_and, and_true, truD, eq_self, Int.zero_add]
  rw [← List.map_append]
  exact .gd (by rw [List.length_set]; exact Nat.le_refl _) (.set .refl bd_encF) True.intro q
theorem rd_File_shorten {ds : List D} {a : A} {Q : DQ} {E : Exq} (h : S_File_shorten ds a Q E) : t_File_shorten { nx := fun _ a' => Ret a Q .non a', rt := Ret a Q } (startD ["self", "size", "steps"] ds) a := by
  obtain ⟨n, k, ls, ss, z, l, rfl, hF, hl, hf, q0, q1⟩ := h
  obtain ⟨hn, hk, hnk⟩ := hF
  show t_File_shorten _ [some (.loc n), some (.int z), some l] a
  unfold t_File_shorten
  refine seqG fun M hM => ?_
  have go : l ≠ .int 0 → M [some (.loc n), some (.int z), some l] a := fun h => by
    subst hM
    refine seqG fun M hM => ?_
    simp only [e_var, e_C, e_op, e_un, e_test, e_tru, e_and, e_or, e_not, e_andV, e_orV, e_notV, e_if, e_nil, e_cons, e_lst, e_lstM, e_tup, e_N, e_R1, e_R2, e_call, e_meth, e_make, e_fld, e_bm, e_noPart, e_part, e_sl, e_yes, e_lc, e_seqI, e_goL, e_goScr, e_rng1, e_rng2, e_next, e_seq, e_set, e_asg, e_exp, e_ret, e_retN, e_sif, e_brk, e_cnt, e_sub, e_augsub, e_aug, e_sfld, e_augfld, e_for, e_chain, e_add, e_addI, e_addL, e_addT, e_addS, e_subI, e_mul, e_mulI, e_fdiv, e_mod, e_pow, e_shl, e_shr, e_band, e_bor, e_bxor, e_lt, e_le, e_gt, e_ge, e_neg, e_eqI, e_neI, e_eqS, e_neS, e_eqB, e_neB, e_eqNI, e_neNI, e_isNN, e_isIN, e_isSN, e_isBN, e_isTN, e_isLN, e_isON, e_isntNN, e_isntIN, e_isntSN, e_isntTN, e_isntLN, e_isntON, e_min2, e_max2, e_int1, e_int1b, e_lenL, e_lenT, e_lenKT, e_lenS, e_lenScr, e_listL, e_listT, e_outT, e_outF, e_slL, e_slT, e_ixL, e_ixT, e_ixKT, e_ixScr, e_isi1, e_isi2, e_tyN, e_tyB, e_tyI, e_tyS, e_tyL, e_tyT, e_tyKT, e_k_NoneType_int, e_k_NoneType_bool, e_k_NoneType_str, e_k_NoneType_list, e_k_NoneType_tuple, e_k_NoneType_dict, e_k_bool_int, e_k_bool_bool, e_k_bool_str, e_k_bool_list, e_k_bool_tuple, e_k_bool_dict, e_k_int_int, e_k_int_bool, e_k_int_str, e_k_int_list, e_k_int_tuple, e_k_int_dict, e_k_str_int, e_k_str_bool, e_k_str_str, e_k_str_list, e_k_str_tuple, e_k_str_dict, e_k_list_int, e_k_list_bool, e_k_list_str, e_k_list_list, e_k_list_tuple, e_k_list_dict, e_k_tuple_int, e_k_tuple_bool, e_k_tuple_str, e_k_tuple_list, e_k_tuple_tuple, e_k_tuple_dict, e_k_dict_int, e_k_dict_bool, e_k_dict_str, e_k_dict_list, e_k_dict_tuple, e_k_dict_dict, List.getElem?_cons_zero, List.getElem?_cons_succ, List.set_cons_zero, List.set_cons_succ, decide_true, decide_false, Bool.not_true, Bool.not_false, if_true, if_false, ite_true, ite_false, Bool.false_eq_true, true_and, and_true, truD, eq_self, Int.zero_add, e_objV hn, e_isL hk, e_append hk]
    refine ⟨fits_small (by simp), by rw [List.length_map]; exact hf, ?_⟩
    subst hM
    simp only [e_var, e_C, e_op, e_un, e_test, e_tru, e_and, e_or, e_not, e_andV, e_orV, e_notV, e_if, e_nil, e_cons, e_lst, e_lstM, e_tup, e_N, e_R1, e_R2, e_call, e_meth, e_make, e_fld, e_bm, e_noPart, e_part, e_sl, e_yes, e_lc, e_seqI, e_goL, e_goScr, e_rng1, e_rng2, e_next, e_seq, e_set, e_asg, e_exp, e_ret, e_retN, e_sif, e_brk, e_cnt, e_sub, e_augsub, e_aug, e_sfld, e_augfld, e_for, e_chain, e_add, e_addI, e_addL, e_addT, e_addS, e_subI, e_mul, e_mulI, e_fdiv, e_mod, e_pow, e_shl, e_shr, e_band, e_bor, e_bxor, e_lt, e_le, e_gt, e_ge, e_neg, e_eqI, e_neI, e_eqS, e_neS, e_eqB, e_neB, e_eqNI, e_neNI, e_isNN, e_isIN, e_isSN, e_isBN, e_isTN, e_isLN, e_isON, e_isntNN, e_isntIN, e_isntSN, e_isntTN, e_isntLN, e_isntON, e_min2, e_max2, e_int1, e_int1b, e_lenL, e_lenT, e_lenKT, e_lenS, e_lenScr, e_listL, e_listT, e_outT, e_outF, e_slL, e_slT, e_ixL, e_ixT, e_ixKT, e_ixScr, e_isi1, e_isi2, e_tyN, e_tyB, e_tyI, e_tyS, e_tyL, e_tyT, e_tyKT, e_k_NoneType_int, e_k_NoneType_bool, e_k_NoneType_str, e_k_NoneType_list, e_k_NoneType_tuple, e_k_NoneType_dict, e_k_bool_int, e_k_bool_bool, e_k_bool_str, e_k_bool_list, e_k_bool_tuple, e_k_bool_dict, e_k_int_int, e_k_int_bool, e_k_int_str, e_k_int_list, e_k_int_tuple, e_k_int_dict, e_k_str_int, e_k_str_bool, e_k_str_str, e_k_str_list, e_k_str_tuple, e_k_str_dict, e_k_list_int, e_k_list_bool, e_k_list_str, e_k_list_list, e_k_list_tuple, e_k_list_dict, e_k_tuple_int, e_k_tuple_bool, e_k_tuple_str, e_k_tuple_list, e_k_tuple_tuple, e_k_tuple_dict, e_k_dict_int, e_k_dict_bool, e_k_dict_str, e_k_dict_list, e_k_dict_tuple, e_k_dict_dict, List.getElem?_cons_zero, List.getElem?_cons_succ, List.set_cons_zero, List.set_cons_succ, decide_true, decide_false, Bool.not_true, Bool.not_false, if_true, if_false, ite_true, ite_false, Bool.false_eq_true, true_and, and_true, truD, eq_self, Int.zero_add]
    have := q1 h
    rw [List.map_append] at this
    exact .gd (by rw [List.length_set]; exact Nat.le_refl _) (.set .refl (by have := bd_encF (n := (a.set k (.lst (ss.map encF ++ [encF (.cut z)]))).length) (ss := ss ++ [.cut z]); rw [List.map_append] at this; exact this)) True.intro this
  cases l with
  | non => simp only [e_var, e_C, e_op, e_un, e_test, e_tru, e_and, e_or, e_not, e_andV, e_orV, e_notV, e_if, e_nil, e_cons, e_lst, e_lstM, e_tup, e_N, e_R1, e_R2, e_call, e_meth, e_make, e_fld, e_bm, e_noPart, e_part, e_sl, e_yes, e_lc, e_seqI, e_goL, e_goScr, e_rng1, e_rng2, e_next, e_seq, e_set, e_asg, e_exp, e_ret, e_retN, e_sif, e_brk, e_cnt, e_sub, e_augsub, e_aug, e_sfld, e_augfld, e_for, e_chain, e_add, e_addI, e_addL, e_addT, e_addS, e_subI, e_mul, e_mulI, e_fdiv, e_mod, e_pow, e_shl, e_shr, e_band, e_bor, e_bxor, e_lt, e_le, e_gt, e_ge, e_neg, e_eqI, e_neI, e_eqS, e_neS, e_eqB, e_neB, e_eqNI, e_neNI, e_isNN, e_isIN, e_isSN, e_isBN, e_isTN, e_isLN, e_isON, e_isntNN, e_isntIN, e_isntSN, e_isntTN, e_isntLN, e_isntON, e_min2, e_max2, e_int1, e_int1b, e_lenL, e_lenT, e_lenKT, e_lenS, e_lenScr, e_listL, e_listT, e_outT, e_outF, e_slL, e_slT, e_ixL, e_ixT, e_ixKT, e_ixScr, e_isi1, e_isi2, e_tyN, e_tyB, e_tyI, e_tyS, e_tyL, e_tyT, e_tyKT, e_k_NoneType_int, e_k_NoneType_bool, e_k_NoneType_str, e_k_NoneType_list, e_k_NoneType_tuple, e_k_NoneType_dict, e_k_bool_int, e_k_bool_bool, e_k_bool_str, e_k_bool_list, e_k_bool_tuple, e_k_bool_dict, e_k_int_int, e_k_int_bool, e_k_int_str, e_k_int_list, e_k_int_tuple, e_k_int_dict, e_k_str_int, e_k_str_bool, e_k_str_str, e_k_str_list, e_k_str_tuple, e_k_str_dict, e_k_list_int, e_k_list_bool, e_k_list_str, e_k_list_list, e_k_list_tuple, e_k_list_dict, e_k_tuple_int, e_k_tuple_bool, e_k_tuple_str, e_k_tuple_list, e_k_tuple_tuple, e_k_tuple_dict, e_k_dict_int, e_k_dict_bool, e_k_dict_str, e_k_dict_list, e_k_dict_tuple, e_k_dict_dict, List.getElem?_cons_zero, List.getElem?_cons_succ, List.set_cons_zero, List.set_cons_succ, decide_true, decide_false, Bool.not_true, Bool.not_false, if_true, if_false, ite_true, ite_false, Bool.false_eq_true, true_and, and_true, truD, eq_self, Int.zero_add]; exact go (by simp)
  | int l =>
    simp only [e_var, e_C, e_op, e_un, e_test, e_tru, e_and, e_or, e_not, e_andV, e_orV, e_notV, e_if, e_nil, e_cons, e_lst, e_lstM, e_tup, e_N, e_R1, e_R2, e_call, e_meth, e_make, e_fld, e_bm, e_noPart, e_part, e_sl, e_yes, e_lc, e_seqI, e_goL, e_goScr, e_rng1, e_rng2, e_next, e_seq, e_set, e_asg, e_exp, e_ret, e_retN, e_sif, e_brk, e_cnt, e_sub, e_augsub, e_aug, e_sfld, e_augfld, e_for, e_chain, e_add, e_addI, e_addL, e_addT, e_addS, e_subI, e_mul, e_mulI, e_fdiv, e_mod, e_pow, e_shl, e_shr, e_band, e_bor, e_bxor, e_lt, e_le, e_gt, e_ge, e_neg, e_eqI, e_neI, e_eqS, e_neS, e_eqB, e_neB, e_eqNI, e_neNI, e_isNN, e_isIN, e_isSN, e_isBN, e_isTN, e_isLN, e_isON, e_isntNN, e_isntIN, e_isntSN, e_isntTN, e_isntLN, e_isntON, e_min2, e_max2, e_int1, e_int1b, e_lenL, e_lenT, e_lenKT, e_lenS, e_lenScr, e_listL, e_listT, e_outT, e_outF, e_slL, e_slT, e_ixL, e_ixT, e_ixKT, e_ixScr, e_isi1, e_isi2, e_tyN, e_tyB, e_tyI, e_tyS, e_tyL, e_tyT, e_tyKT, e_k_NoneType_int, e_k_NoneType_bool, e_k_NoneType_str, e_k_NoneType_list, e_k_NoneType_tuple, e_k_NoneType_dict, e_k_bool_int, e_k_bool_bool, e_k_bool_str, e_k_bool_list, e_k_bool_tuple, e_k_bool_dict, e_k_int_int, e_k_int_bool, e_k_int_str, e_k_int_list, e_k_int_tuple, e_k_int_dict, e_k_str_int, e_k_str_bool, e_k_str_str, e_k_str_list, e_k_str_tuple, e_k_str_dict, e_k_list_int, e_k_list_bool, e_k_list_str, e_k_list_list, e_k_list_tuple, e_k_list_dict, e_k_tuple_int, e_k_tuple_bool, e_k_tuple_str, e_k_tuple_list, e_k_tuple_tuple, e_k_tuple_dict, e_k_dict_int, e_k_dict_bool, e_k_dict_str, e_k_dict_list, e_k_dict_tuple, e_k_dict_dict, List.getElem?_cons_zero, List.getElem?_cons_succ, List.set_cons_zero, List.set_cons_succ, decide_true, decide_false, Bool.not_true, Bool.not_false, if_true, if_false, ite_true, ite_false, Bool.false_eq_true, true_and, and_true, truD, eq_self, Int.zero_add]
    by_cases e : l = 0
    · subst e
      simp only [e_var, e_C, e_op, e_un, e_test, e_tru, e_and, e_or, e_not, e_andV, e_orV, e_notV, e_if, e_nil, e_cons, e_lst, e_lstM, e_tup, e_N, e_R1, e_R2, e_call, e_meth, e_make, e_fld, e_bm, e_noPart, e_part, e_sl, e_yes, e_lc, e_seqI, e_goL, e_goScr, e_rng1, e_rng2, e_next, e_seq, e_set, e_asg, e_exp, e_ret, e_retN, e_sif, e_brk, e_cnt, e_sub, e_augsub, e_aug, e_sfld, e_augfld, e_for, e_chain, e_add, e_addI, e_addL, e_addT, e_addS, e_subI, e_mul, e_mulI, e_fdiv, e_mod, e_pow, e_shl, e_shr, e_band, e_bor, e_bxor, e_lt, e_le, e_gt, e_ge, e_neg, e_eqI, e_neI, e_eqS, e_neS, e_eqB, e_neB, e_eqNI, e_neNI, e_isNN, e_isIN, e_isSN, e_isBN, e_isTN, e_isLN, e_isON, e_isntNN, e_isntIN, e_isntSN, e_isntTN, e_isntLN, e_isntON, e_min2, e_max2, e_int1, e_int1b, e_lenL, e_lenT, e_lenKT, e_lenS, e_lenScr, e_listL, e_listT, e_outT, e_outF, e_slL, e_slT, e_ixL, e_ixT, e_ixKT, e_ixScr, e_isi1, e_isi2, e_tyN, e_tyB, e_tyI, e_tyS, e_tyL, e_tyT, e_tyKT, e_k_NoneType_int, e_k_NoneType_bool, e_k_NoneType_str, e_k_NoneType_list, e_k_NoneType_tuple, e_k_NoneType_dict, e_k_bool_int, e_k_bool_bool, e_k_bool_str, e_k_bool_list, e_k_bool_tuple, e_k_bool_dict, e_k_int_int, e_k_int_bool, e_k_int_str, e_k_int_list, e_k_int_tuple, e_k_int_dict, e_k_str_int, e_k_str_bool, e_k_str_str, e_k_str_list, e_k_str_tuple, e_k_str_dict, e_k_list_int, e_k_list_bool, e_k_list_str, e_k_list_list, e_k_list_tuple, e_k_list_dict, e_k_tuple_int, e_k_tuple_bool, e_k_tuple_str, e_k_tuple_list, e_k_tuple_tuple, e_k_tuple_dict, e_k_dict_int, e_k_dict_bool, e_k_dict_str, e_k_dict_list, e_k_dict_tuple, e_k_dict_dict, List.getElem?_cons_zero, List.getElem?_cons_succ, List.set_cons_zero, List.set_cons_succ, decide_true, decide_false, Bool.not_true, Bool.not_false, if_true, if_false, ite_true, ite_false, Bool.false_eq_true, true_and, and_true, truD, eq_self, Int.zero_add]
      exact .same True.intro (q0 rfl)
    · simp only [e, e_var, e_C, e_op, e_un, e_test, e_tru, e_and, e_or, e_not, e_andV, e_orV, e_notV, e_if, e_nil, e_cons, e_lst, e_lstM, e_tup, e_N, e_R1, e_R2, e_call, e_meth, e_make, e_fld, e_bm, e_noPart, e_part, e_sl, e_yes, e_lc, e_seqI, e_goL, e_goScr, e_rng1, e_rng2, e_next, e_seq, e_set, e_asg, e_exp, e_ret, e_retN, e_sif, e_brk, e_cnt, e_sub, e_augsub, e_aug, e_sfld, e_augfld, e_for, e_chain, e_add, e_addI, e_addL, e_addT, e_addS, e_subI, e_mul, e_mulI, e_fdiv, e_mod, e_pow, e_shl, e_shr, e_band, e_bor, e_bxor, e_lt, e_le, e_gt, e_ge, e_neg, e_eqI, e_neI, e_eqS, e_neS, e_eqB, e_neB, e_eqNI, e_neNI, e_isNN, e_isIN, e_isSN, e_isBN, e_isTN, e_isLN, e_isON, e_isntNN, e_isntIN, e_isntSN, e_isntTN, e_isntLN, e_isntON, e_min2, e_max2, e_int1, e_int1b, e_lenL, e_lenT, e_lenKT, e_lenS, e_lenScr, e_listL, e_listT, e_outT, e_outF, e_slL, e_slT, e_ixL, e_ixT, e_ixKT, e_ixScr, e_isi1, e_isi2, e_tyN, e_tyB, e_tyI, e_tyS, e_tyL, e_tyT, e_tyKT, e_k_NoneType_int, e_k_NoneType_bool, e_k_NoneType_str, e_k_NoneType_list, e_k_NoneType_tuple, e_k_NoneType_dict, e_k_bool_int, e_k_bool_bool, e_k_bool_str, e_k_bool_list, e_k_bool_tuple, e_k_bool_dict, e_k_int_int, e_k_int_bool, e_k_int_str, e_k_int_list, e_k_int_tuple, e_k_int_dict, e_k_str_int, e_k_str_bool, e_k_str_str, e_k_str_list, e_k_str_tuple, e_k_str_dict, e_k_list_int, e_k_list_bool, e_k_list_str, e_k_list_list, e_k_list_tuple, e_k_list_dict, e_k_tuple_int, e_k_tuple_bool, e_k_tuple_str, e_k_tuple_list, e_k_tuple_tuple, e_k_tuple_dict, e_k_dict_int, e_k_dict_bool, e_k_dict_str, e_k_dict_list, e_k_dict_tuple, e_k_dict_dict, List.getElem?_cons_zero, List.getElem?_cons_succ, List.set_cons_zero, List.set_cons_succ, decide_true, decide_false, Bool.not_true, Bool.not_false, if_true, if_false, ite_true, ite_false, Bool.false_eq_true, true_and, and_true, truD, eq_self, Int.zero_add]
      exact go (by simpa using e)
  | _ => exact hl.elim
theorem lose_set {a : A} {n : Nat} {zs : List Int} {k : Nat} (hlt : n < a.length) : setFld (a.set n (.obj 0 [.lst (dI zs), .loc k]) ++ [AO.lst []]) n 0 1 [.lst (dI zs), .loc k] (.loc (a.set n (.obj 0 [.lst (dI zs), .loc k])).length) = lost a n zs := by
  show (a.set n (.obj 0 [.lst (dI zs), .loc k]) ++ [AO.lst []]).set n (.obj 0 [.lst (dI zs), .loc _]) = _
  rw [setB (by rw [List.length_set]; exact hlt), List.set_set, List.length_set]
  rfl
theorem lost_len {a : A} {n : Nat} {zs : List Int} : (lost a n zs).length = a.length + 1 := by unfold lost; rw [List.length_append, List.length_set]; rfl
theorem rd_File_lose {ds : List D} {a : A} {Q : DQ} {E : Exq} (h : S_File_lose ds a Q E) : t_File_lose { nx := fun _ a' => Ret a Q .non a', rt := Ret a Q } (startD ["self", "steps"] ds) a := by
  obtain ⟨n, k, ls, ss, c, rfl, hF, hc, hf, q⟩ := h
  obtain ⟨hn, hk, hnk⟩ := hF
  have hlt : n < a.length := (List.getElem?_eq_some_iff.1 hn).1
  show t_File_lose _ [some (.loc n), some (.int c)] a
  unfold t_File_lose
  refine seqG fun M hM => ?_
  simp only [e_var, e_C, e_op, e_un, e_test, e_tru, e_and, e_or, e_not, e_andV, e_orV, e_notV, e_if, e_nil, e_cons, e_lst, e_lstM, e_tup, e_N, e_R1, e_R2, e_call, e_meth, e_make, e_fld, e_bm, e_noPart, e_part, e_sl, e_yes, e_lc, e_seqI, e_goL, e_goScr, e_rng1, e_rng2, e_next, e_seq, e_set, e_asg, e_exp, e_ret, e_retN, e_sif, e_brk, e_cnt, e_sub, e_augsub, e_aug, e_sfld, e_augfld, e_for, e_chain, e_add, e_addI, e_addL, e_addT, e_addS, e_subI, e_mul, e_mulI, e_fdiv, e_mod, e_pow, e_shl, e_shr, e_band, e_bor, e_bxor, e_lt, e_le, e_gt, e_ge, e_neg, e_eqI, e_neI, e_eqS, e_neS, e_eqB, e_neB, e_eqNI, e_neNI, e_isNN, e_isIN, e_isSN, e_isBN, e_isTN, e_isLN, e_isON, e_isntNN, e_isntIN, e_isntSN, e_isntTN, e_isntLN, e_isntON, e_min2, e_max2, e_int1, e_int1b, e_lenL, e_lenT, e_lenKT, e_lenS, e_lenScr, e_listL, e_listT, e_outT, e_outF, e_slL, e_slT, e_ixL, e_ixT, e_ixKT, e_ixScr, e_isi1, e_isi2, e_tyN, e_tyB, e_tyI, e_tyS, e_tyL, e_tyT, e_tyKT, e_k_NoneType_int, e_k_NoneType_bool, e_k_NoneType_str, e_k_NoneType_list, e_k_NoneType_tuple, e_k_NoneType_dict, e_k_bool_int, e_k_bool_bool, e_k_bool_str, e_k_bool_list, e_k_bool_tuple, e_k_bool_dict, e_k_int_int, e_k_int_bool, e_k_int_str, e_k_int_list, e_k_int_tuple, e_k_int_dict, e_k_str_int, e_k_str_bool, e_k_str_str, e_k_str_list, e_k_str_tuple, e_k_str_dict, e_k_list_int, e_k_list_bool, e_k_list_str, e_k_list_list, e_k_list_tuple, e_k_list_dict, e_k_tuple_int, e_k_tuple_bool, e_k_tuple_str, e_k_tuple_list, e_k_tuple_tuple, e_k_tuple_dict, e_k_dict_int, e_k_dict_bool, e_k_dict_str, e_k_dict_list, e_k_dict_tuple, e_k_dict_dict, List.getElem?_cons_zero, List.getElem?_cons_succ, List.set_cons_zero, List.set_cons_succ, decide_true, decide_false, Bool.not_true, Bool.not_false, if_true, if_false, ite_true, ite_false, Bool.false_eq_true, true_and, and_true, truD, eq_self, Int.zero_add, e_objV hn, e_slO hk, cut_take hc]
  refine ⟨hf.of (by rw [List.length_map]; omega), _, _, ls, ss.take c.toNat, rfl, rfl, by rw [List.map_take]; rfl, hf.of (by rw [List.length_take]; omega), ?_⟩
  simp only [e_objV hn]
  refine ⟨Nat.zero_le _, ?_⟩
  subst hM
  generalize hz : runS ls (ss.take c.toNat) = zs at q
  have h1 : setFld a n 0 0 [.lst (dI ls), .loc k] (.lst (dI zs)) = a.set n (.obj 0 [.lst (dI zs), .loc k]) := rfl
  rw [h1]
  have hn2 : (a.set n (.obj 0 [.lst (dI zs), .loc k]) ++ [AO.lst []])[n]? = some (.obj 0 [.lst (dI zs), .loc k]) := by
    rw [List.getElem?_append_left (by rw [List.length_set]; exact hlt), List.getElem?_set_self hlt]
  simp only [e_var, e_C, e_op, e_un, e_test, e_tru, e_and, e_or, e_not, e_andV, e_orV, e_notV, e_if, e_nil, e_cons, e_lst, e_lstM, e_tup, e_N, e_R1, e_R2, e_call, e_meth, e_make, e_fld, e_bm, e_noPart, e_part, e_sl, e_yes, e_lc, e_seqI, e_goL, e_goScr, e_rng1, e_rng2, e_next, e_seq, e_set, e_asg, e_exp, e_ret, e_retN, e_sif, e_brk, e_cnt, e_sub, e_augsub, e_aug, e_sfld, e_augfld, e_for, e_chain, e_add, e_addI, e_addL, e_addT, e_addS, e_subI, e_mul, e_mulI, e_fdiv, e_mod, e_pow, e_shl, e_shr, e_band, e_bor, e_bxor, e_lt, e_le, e_gt, e_ge, e_neg, e_eqI, e_neI, e_eqS, e_neS, e_eqB, e_neB, e_eqNI, e_neNI, e_isNN, e_isIN, e_isSN, e_isBN, e_isTN, e_isLN, e_isON, e_isntNN, e_isntIN, e_isntSN, e_isntTN, e_isntLN, e_isntON, e_min2, e_max2, e_int1, e_int1b, e_lenL, e_lenT, e_lenKT, e_lenS, e_lenScr, e_listL, e_listT, e_outT, e_outF, e_slL, e_slT, e_ixL, e_ixT, e_ixKT, e_ixScr, e_isi1, e_isi2, e_tyN, e_tyB, e_tyI, e_tyS, e_tyL, e_tyT, e_tyKT, e_k_NoneType_int, e_k_NoneType_bool, e_k_NoneType_str, e_k_NoneType_list, e_k_NoneType_tuple, e_k_NoneType_dict, e_k_bool_int, e_k_bool_bool, e_k_bool_str, e_k_bool_list, e_k_bool_tuple, e_k_bool_dict, e_k_int_int, e_k_int_bool, e_k_int_str, e_k_int_list, e_k_int_tuple, e_k_int_dict, e_k_str_int, e_k_str_bool, e_k_str_str, e_k_str_list, e_k_str_tuple, e_k_str_dict, e_k_list_int, e_k_list_bool, e_k_list_str, e_k_list_list, e_k_list_tuple, e_k_list_dict, e_k_tuple_int, e_k_tuple_bool, e_k_tuple_str, e_k_tuple_list, e_k_tuple_tuple, e_k_tuple_dict, e_k_dict_int, e_k_dict_bool, e_k_dict_str, e_k_dict_list, e_k_dict_tuple, e_k_dict_dict, List.getElem?_cons_zero, List.getElem?_cons_succ, List.set_cons_zero, List.set_cons_succ, decide_true, decide_false, Bool.not_true, Bool.not_false, if_true, if_false, ite_true, ite_false, Bool.false_eq_true, true_and, and_true, truD, eq_self, Int.zero_add, e_objV hn2]
  refine ⟨fits_small (by simp), by simp, ?_⟩
  rw [lose_set hlt]
  have hlen := lost_len (a := a) (n := n) (zs := zs)
  exact .gd (by omega) (.app1 (.set .refl ⟨bd_dI, by show a.length < _; omega, True.intro⟩) True.intro) True.intro q
theorem rd_File_flush {ds : List D} {a : A} {Q : DQ} {E : Exq} (h : S_File_flush ds a Q E) : t_File_flush { nx := fun _ a' => Ret a Q .non a', rt := Ret a Q } (startD ["self", "steps"] ds) a := by
  obtain ⟨n, k, ls, ss, l, rfl, hF, hl, hf, q0, q1⟩ := h
  have hn := hF.1
  have hk := hF.2.1
  show t_File_flush _ [some (.loc n), some l] a
  unfold t_File_flush
  refine seqG fun M hM => ?_
  have go : l ≠ .int 0 → M [some (.loc n), some l] a := fun h => by
    subst hM
    refine seqG fun M hM => ?_
    simp only [e_var, e_C, e_op, e_un, e_test, e_tru, e_and, e_or, e_not, e_andV, e_orV, e_notV, e_if, e_nil, e_cons, e_lst, e_lstM, e_tup, e_N, e_R1, e_R2, e_call, e_meth, e_make, e_fld, e_bm, e_noPart, e_part, e_sl, e_yes, e_lc, e_seqI, e_goL, e_goScr, e_rng1, e_rng2, e_next, e_seq, e_set, e_asg, e_exp, e_ret, e_retN, e_sif, e_brk, e_cnt, e_sub, e_augsub, e_aug, e_sfld, e_augfld, e_for, e_chain, e_add, e_addI, e_addL, e_addT, e_addS, e_subI, e_mul, e_mulI, e_fdiv, e_mod, e_pow, e_shl, e_shr, e_band, e_bor, e_bxor, e_lt, e_le, e_gt, e_ge, e_neg, e_eqI, e_neI, e_eqS, e_neS, e_eqB, e_neB, e_eqNI, e_neNI, e_isNN, e_isIN, e_isSN, e_isBN, e_isTN, e_isLN, e_isON, e_isntNN, e_isntIN, e_isntSN, e_isntTN, e_isntLN, e_isntON, e_min2, e_max2, e_int1, e_int1b, e_lenL, e_lenT, e_lenKT, e_lenS, e_lenScr, e_listL, e_listT, e_outT, e_outF, e_slL, e_slT, e_ixL, e_ixT, e_ixKT, e_ixScr, e_isi1, e_isi2, e_tyN, e_tyB, e_tyI, e_tyS, e_tyL, e_tyT, e_tyKT, e_k_NoneType_int, e_k_NoneType_bool, e_k_NoneType_str, e_k_NoneType_list, e_k_NoneType_tuple, e_k_NoneType_dict, e_k_bool_int, e_k_bool_bool, e_k_bool_str, e_k_bool_list, e_k_bool_tuple, e_k_bool_dict, e_k_int_int, e_k_int_bool, e_k_int_str, e_k_int_list, e_k_int_tuple, e_k_int_dict, e_k_str_int, e_k_str_bool, e_k_str_str, e_k_str_list, e_k_str_tuple, e_k_str_dict, e_k_list_int, e_k_list_bool, e_k_list_str, e_k_list_list, e_k_list_tuple, e_k_list_dict, e_k_tuple_int, e_k_tuple_bool, e_k_tuple_str, e_k_tuple_list, e_k_tuple_tuple, e_k_tuple_dict, e_k_dict_int, e_k_dict_bool, e_k_dict_str, e_k_dict_list, e_k_dict_tuple, e_k_dict_dict, List.getElem?_cons_zero, List.getElem?_cons_succ, List.set_cons_zero, List.set_cons_succ, decide_true, decide_false, Bool.not_true, Bool.not_false, if_true, if_false, ite_true, ite_false, Bool.false_eq_true, true_and, and_true, truD, eq_self, Int.zero_add, e_objV hn, e_lenO hk, Option.isSome_some]
    refine ⟨n, k, ls, ss, ss.length, by rw [List.length_map], hF, Int.natCast_nonneg _, hf, ?_⟩
    subst hM
    simp only [e_var, e_C, e_op, e_un, e_test, e_tru, e_and, e_or, e_not, e_andV, e_orV, e_notV, e_if, e_nil, e_cons, e_lst, e_lstM, e_tup, e_N, e_R1, e_R2, e_call, e_meth, e_make, e_fld, e_bm, e_noPart, e_part, e_sl, e_yes, e_lc, e_seqI, e_goL, e_goScr, e_rng1, e_rng2, e_next, e_seq, e_set, e_asg, e_exp, e_ret, e_retN, e_sif, e_brk, e_cnt, e_sub, e_augsub, e_aug, e_sfld, e_augfld, e_for, e_chain, e_add, e_addI, e_addL, e_addT, e_addS, e_subI, e_mul, e_mulI, e_fdiv, e_mod, e_pow, e_shl, e_shr, e_band, e_bor, e_bxor, e_lt, e_le, e_gt, e_ge, e_neg, e_eqI, e_neI, e_eqS, e_neS, e_eqB, e_neB, e_eqNI, e_neNI, e_isNN, e_isIN, e_isSN, e_isBN, e_isTN, e_isLN, e_isON, e_isntNN, e_isntIN, e_isntSN, e_isntTN, e_isntLN, e_isntON, e_min2, e_max2, e_int1, e_int1b, e_lenL, e_lenT, e_lenKT, e_lenS, e_lenScr, e_listL, e_listT, e_outT, e_outF, e_slL, e_slT, e_ixL, e_ixT, e_ixKT, e_ixScr, e_isi1, e_isi2, e_tyN, e_tyB, e_tyI, e_tyS, e_tyL, e_tyT, e_tyKT, e_k_NoneType_int, e_k_NoneType_bool, e_k_NoneType_str, e_k_NoneType_list, e_k_NoneType_tuple, e_k_NoneType_dict, e_k_bool_int, e_k_bool_bool, e_k_bool_str, e_k_bool_list, e_k_bool_tuple, e_k_bool_dict, e_k_int_int, e_k_int_bool, e_k_int_str, e_k_int_list, e_k_int_tuple, e_k_int_dict, e_k_str_int, e_k_str_bool, e_k_str_str, e_k_str_list, e_k_str_tuple, e_k_str_dict, e_k_list_int, e_k_list_bool, e_k_list_str, e_k_list_list, e_k_list_tuple, e_k_list_dict, e_k_tuple_int, e_k_tuple_bool, e_k_tuple_str, e_k_tuple_list, e_k_tuple_tuple, e_k_tuple_dict, e_k_dict_int, e_k_dict_bool, e_k_dict_str, e_k_dict_list, e_k_dict_tuple, e_k_dict_dict, List.getElem?_cons_zero, List.getElem?_cons_succ, List.set_cons_zero, List.set_cons_succ, decide_true, decide_false, Bool.not_true, Bool.not_false, if_true, if_false, ite_true, ite_false, Bool.false_eq_true, true_and, and_true, truD, eq_self, Int.zero_add]
    rw [Int.toNat_natCast, List.take_length]
    have hlen := lost_len (a := a) (n := n) (zs := runS ls ss)
    exact .gd (by omega) (.app1 (.set .refl ⟨bd_dI, by show a.length < _; omega, True.intro⟩) True.intro) True.intro (q1 h)
  cases l with
  | non => simp only [e_var, e_C, e_op, e_un, e_test, e_tru, e_and, e_or, e_not, e_andV, e_orV, e_notV, e_if, e_nil, e_cons, e_lst, e_lstM, e_tup, e_N, e_R1, e_R2, e_call, e_meth, e_make, e_fld, e_bm, e_noPart, e_part, e_sl, e_yes, e_lc, e_seqI, e_goL, e_goScr, e_rng1, e_rng2, e_next, e_seq, e_set, e_asg, e_exp, e_ret, e_retN, e_sif, e_brk, e_cnt, e_sub, e_augsub, e_aug, e_sfld, e_augfld, e_for, e_chain, e_add, e_addI, e_addL, e_addT, e_addS, e_subI, e_mul, e_mulI, e_fdiv, e_mod, e_pow, e_shl, e_shr, e_band, e_bor, e_bxor, e_lt, e_le, e_gt, e_ge, e_neg, e_eqI, e_neI, e_eqS, e_neS, e_eqB, e_neB, e_eqNI, e_neNI, e_isNN, e_isIN, e_isSN, e_isBN, e_isTN, e_isLN, e_isON, e_isntNN, e_isntIN, e_isntSN, e_isntTN, e_isntLN, e_isntON, e_min2, e_max2, e_int1, e_int1b, e_lenL, e_lenT, e_lenKT, e_lenS, e_lenScr, e_listL, e_listT, e_outT, e_outF, e_slL, e_slT, e_ixL, e_ixT, e_ixKT, e_ixScr, e_isi1, e_isi2, e_tyN, e_tyB, e_tyI, e_tyS, e_tyL, e_tyT, e_tyKT, e_k_NoneType_int, e_k_NoneType_bool, e_k_NoneType_str, e_k_NoneType_list, e_k_NoneType_tuple, e_k_NoneType_dict, e_k_bool_int, e_k_bool_bool, e_k_bool_str, e_k_bool_list, e_k_bool_tuple, e_k_bool_dict, e_k_int_int, e_k_int_bool, e_k_int_str, e_k_int_list, e_k_int_tuple, e_k_int_dict, e_k_str_int, e_k_str_bool, e_k_str_str, e_k_str_list, e_k_str_tuple, e_k_str_dict, e_k_list_int, e_k_list_bool, e_k_list_str, e_k_list_list, e_k_list_tuple, e_k_list_dict, e_k_tuple_int, e_k_tuple_bool, e_k_tuple_str, e_k_tuple_list, e_k_tuple_tuple, e_k_tuple_dict, e_k_dict_int, e_k_dict_bool, e_k_dict_str, e_k_dict_list, e_k_dict_tuple, e_k_dict_dict, List.getElem?_cons_zero, List.getElem?_cons_succ, List.set_cons_zero, List.set_cons_succ, decide_true, decide_false, Bool.not_true, Bool.not_false, if_true, if_false, ite_true, ite_false, Bool.false_eq_true, true_and, and_true, truD, eq_self, Int.zero_add]; exact go (by simp)
  | int l =>
    simp only [e_var, e_C, e_op, e_un, e_test, e_tru, e_and, e_or, e_not, e_andV, e_orV, e_notV, e_if, e_nil, e_cons, e_lst, e_lstM, e_tup, e_N, e_R1, e_R2, e_call, e_meth, e_make, e_fld, e_bm, e_noPart, e_part, e_sl, e_yes, e_lc, e_seqI, e_goL, e_goScr, e_rng1, e_rng2, e_next, e_seq, e_set, e_asg, e_exp, e_ret, e_retN, e_sif, e_brk, e_cnt, e_sub, e_augsub, e_aug, e_sfld, e_augfld, e_for, e_chain, e_add, e_addI, e_addL, e_addT, e_addS, e_subI, e_mul, e_mulI, e_fdiv, e_mod, e_pow, e_shl, e_shr, e_band, e_bor, e_bxor, e_lt, e_le, e_gt, e_ge, e_neg, e_eqI, e_neI, e_eqS, e_neS, e_eqB, e_neB, e_eqNI, e_neNI, e_isNN, e_isIN, e_isSN, e_isBN, e_isTN, e_isLN, e_isON, e_isntNN, e_isntIN, e_isntSN, e_isntTN, e_isntLN, e_isntON, e_min2, e_max2, e_int1, e_int1b, e_lenL, e_lenT, e_lenKT, e_lenS, e_lenScr, e_listL, e_listT, e_outT, e_outF, e_slL, e_slT, e_ixL, e_ixT, e_ixKT, e_ixScr, e_isi1, e_isi2, e_tyN, e_tyB, e_tyI, e_tyS, e_tyL, e_tyT, e_tyKT, e_k_NoneType_int, e_k_NoneType_bool, e_k_NoneType_str, e_k_NoneType_list, e_k_NoneType_tuple, e_k_NoneType_dict, e_k_bool_int, e_k_bool_bool, e_k_bool_str, e_k_bool_list, e_k_bool_tuple, e_k_bool_dict, e_k_int_int, e_k_int_bool, e_k_int_str, e_k_int_list, e_k_int_tuple, e_k_int_dict, e_k_str_int, e_k_str_bool, e_k_str_str, e_k_str_list, e_k_str_tuple, e_k_str_dict, e_k_list_int, e_k_list_bool, e_k_list_str, e_k_list_list, e_k_list_tuple, e_k_list_dict, e_k_tuple_int, e_k_tuple_bool, e_k_tuple_str, e_k_tuple_list, e_k_tuple_tuple, e_k_tuple_dict, e_k_dict_int, e_k_dict_bool, e_k_dict_str, e_k_dict_list, e_k_dict_tuple, e_k_dict_dict, List.getElem?_cons_zero, List.getElem?_cons_succ, List.set_cons_zero, List.set_cons_succ, decide_true, decide_false, Bool.not_true, Bool.not_false, if_true, if_false, ite_true, ite_false, Bool.false_eq_true, true_and, and_true, truD, eq_self, Int.zero_add]
    by_cases e : l = 0
    · subst e
      simp only [e_var, e_C, e_op, e_un, e_test, e_tru, e_and, e_or, e_not, e_andV, e_orV, e_notV, e_if, e_nil, e_cons, e_lst, e_lstM, e_tup, e_N, e_R1, e_R2, e_call, e_meth, e_make, e_fld, e_bm, e_noPart, e_part, e_sl, e_yes, e_lc, e_seqI, e_goL, e_goScr, e_rng1, e_rng2, e_next, e_seq, e_set, e_asg, e_exp, e_ret, e_retN, e_sif, e_brk, e_cnt, e_sub, e_augsub, e_aug, e_sfld, e_augfld, e_for, e_chain, e_add, e_addI, e_addL, e_addT, e_addS, e_subI, e_mul, e_mulI, e_fdiv, e_mod, e_pow, e_shl, e_shr, e_band, e_bor, e_bxor, e_lt, e_le, e_gt, e_ge, e_neg, e_eqI, e_neI, e_eqS, e_neS, e_eqB, e_neB, e_eqNI, e_neNI, e_isNN, e_isIN, e_isSN, e_isBN, e_isTN, e_isLN, e_isON, e_isntNN, e_isntIN, e_isntSN, e_isntTN, e_isntLN, e_isntON, e_min2, e_max2, e_int1, e_int1b, e_lenL, e_lenT, e_lenKT, e_lenS, e_lenScr, e_listL, e_listT, e_outT, e_outF, e_slL, e_slT, e_ixL, e_ixT, e_ixKT, e_ixScr, e_isi1, e_isi2, e_tyN, e_tyB, e_tyI, e_tyS, e_tyL, e_tyT, e_tyKT, e_k_NoneType_int, e_k_NoneType_bool, e_k_NoneType_str, e_k_NoneType_list, e_k_NoneType_tuple, e_k_NoneType_dict, e_k_bool_int, e_k_bool_bool, e_k_bool_str, e_k_bool_list, e_k_bool_tuple, e_k_bool_dict, e_k_int_int, e_k_int_bool, e_k_int_str, e_k_int_list, e_k_int_tuple, e_k_int_dict, e_k_str_int, e_k_str_bool, e_k_str_str, e_k_str_list, e_k_str_tuple, e_k_str_dict, e_k_list_int, e_k_list_bool, e_k_list_str, e_k_list_list, e_k_list_tuple, e_k_list_dict, e_k_tuple_int, e_k_tuple_bool, e_k_tuple_str, e_k_tuple_list, e_k_tuple_tuple, e_k_tuple_dict, e_k_dict_int, e_k_dict_bool, e_k_dict_str, e_k_dict_list, e_k_dict_tuple, e_k_dict_dict, List.getElem?_cons_zero, List.getElem?_cons_succ, List.set_cons_zero, List.set_cons_succ, decide_true, decide_false, Bool.not_true, Bool.not_false, if_true, if_false, ite_true, ite_false, Bool.false_eq_true, true_and, and_true, truD, eq_self, Int.zero_add]
      exact .same True.intro (q0 rfl)
    · simp only [e, e_var, e_C, e_op, e_un, e_test, e_tru, e_and, e_or, e_not, e_andV, e_orV, e_notV, e_if, e_nil, e_cons, e_lst, e_lstM, e_tup, e_N, e_R1, e_R2, e_call, e_meth, e_make, e_fld, e_bm, e_noPart, e_part, e_sl, e_yes, e_lc, e_seqI, e_goL, e_goScr, e_rng1, e_rng2, e_next, e_seq, e_set, e_asg, e_exp, e_ret, e_retN, e_sif, e_brk, e_cnt, e_sub, e_augsub, e_aug, e_sfld, e_augfld, e_for, e_chain, e_add, e_addI, e_addL, e_addT, e_addS, e_subI, e_mul, e_mulI, e_fdiv, e_mod, e_pow, e_shl, e_shr, e_band, e_bor, e_bxor, e_lt, e_le, e_gt, e_ge, e_neg, e_eqI, e_neI, e_eqS, e_neS, e_eqB, e_neB, e_eqNI, e_neNI, e_isNN, e_isIN, e_isSN, e_isBN, e_isTN, e_isLN, e_isON, e_isntNN, e_isntIN, e_isntSN, e_isntTN, e_isntLN, e_isntON, e_min2, e_max2, e_int1, e_int1b, e_lenL, e_lenT, e_lenKT, e_lenS, e_lenScr, e_listL, e_listT, e_outT, e_outF, e_slL, e_slT, e_ixL, e_ixT, e_ixKT, e_ixScr, e_isi1, e_isi2, e_tyN, e_tyB, e_tyI, e_tyS, e_tyL, e_tyT, e_tyKT, e_k_NoneType_int, e_k_NoneType_bool, e_k_NoneType_str, e_k_NoneType_list, e_k_NoneType_tuple, e_k_NoneType_dict, e_k_bool_int, e_k_bool_bool, e_k_bool_str, e_k_bool_list, e_k_bool_tuple, e_k_bool_dict, e_k_int_int, e_k_int_bool, e_k_int_str, e_k_int_list, e_k_int_tuple, e_k_int_dict, e_k_str_int, e_k_str_bool, e_k_str_str, e_k_str_list, e_k_str_tuple, e_k_str_dict, e_k_list_int, e_k_list_bool, e_k_list_str, e_k_list_list, e_k_list_tuple, e_k_list_dict, e_k_tuple_int, e_k_tuple_bool, e_k_tuple_str, e_k_tuple_list, e_k_tuple_tuple, e_k_tuple_dict, e_k_dict_int, e_k_dict_bool, e_k_dict_str, e_k_dict_list, e_k_dict_tuple, e_k_dict_dict, List.getElem?_cons_zero, List.getElem?_cons_succ, List.set_cons_zero, List.set_cons_succ, decide_true, decide_false, Bool.not_true, Bool.not_false, if_true, if_false, ite_true, ite_false, Bool.false_eq_true, true_and, and_true, truD, eq_self, Int.zero_add]
      exact go (by simpa using e)
  | _ => exact hl.elim
theorem vw_loc {a : A} {k : Nat} {ds : List D} (h : a[k]? = some (.lst ds)) : vwL a (.loc k) = some ds := by simp only [vwL, h]
theorem rd_File_content {ds : List D} {a : A} {Q : DQ} {E : Exq} (h : S_File_content ds a Q E) : t_File_content { nx := fun _ a' => Ret a Q .non a', rt := Ret a Q } (startD ["self"] ds) a := by
  obtain ⟨n, k, ls, ss, rfl, hF, hf, q⟩ := h
  show t_File_content _ [some (.loc n)] a
  unfold t_File_content
  simp only [e_var, e_C, e_op, e_un, e_test, e_tru, e_and, e_or, e_not, e_andV, e_orV, e_notV, e_if, e_nil, e_cons, e_lst, e_lstM, e_tup, e_N, e_R1, e_R2, e_call, e_meth, e_make, e_fld, e_bm, e_noPart, e_part, e_sl, e_yes, e_lc, e_seqI, e_goL, e_goScr, e_rng1, e_rng2, e_next, e_seq, e_set, e_asg, e_exp, e_ret, e_retN, e_sif, e_brk, e_cnt, e_sub, e_augsub, e_aug, e_sfld, e_augfld, e_for, e_chain, e_add, e_addI, e_addL, e_addT, e_addS, e_subI, e_mul, e_mulI, e_fdiv, e_mod, e_pow, e_shl, e_shr, e_band, e_bor, e_bxor, e_lt, e_le, e_gt, e_ge, e_neg, e_eqI, e_neI, e_eqS, e_neS, e_eqB, e_neB, e_eqNI, e_neNI, e_isNN, e_isIN, e_isSN, e_isBN, e_isTN, e_isLN, e_isON, e_isntNN, e_isntIN, e_isntSN, e_isntTN, e_isntLN, e_isntON, e_min2, e_max2, e_int1, e_int1b, e_lenL, e_lenT, e_lenKT, e_lenS, e_lenScr, e_listL, e_listT, e_outT, e_outF, e_slL, e_slT, e_ixL, e_ixT, e_ixKT, e_ixScr, e_isi1, e_isi2, e_tyN, e_tyB, e_tyI, e_tyS, e_tyL, e_tyT, e_tyKT, e_k_NoneType_int, e_k_NoneType_bool, e_k_NoneType_str, e_k_NoneType_list, e_k_NoneType_tuple, e_k_NoneType_dict, e_k_bool_int, e_k_bool_bool, e_k_bool_str, e_k_bool_list, e_k_bool_tuple, e_k_bool_dict, e_k_int_int, e_k_int_bool, e_k_int_str, e_k_int_list, e_k_int_tuple, e_k_int_dict, e_k_str_int, e_k_str_bool, e_k_str_str, e_k_str_list, e_k_str_tuple, e_k_str_dict, e_k_list_int, e_k_list_bool, e_k_list_str, e_k_list_list, e_k_list_tuple, e_k_list_dict, e_k_tuple_int, e_k_tuple_bool, e_k_tuple_str, e_k_tuple_list, e_k_tuple_tuple, e_k_tuple_dict, e_k_dict_int, e_k_dict_bool, e_k_dict_str, e_k_dict_list, e_k_dict_tuple, e_k_dict_dict, List.getElem?_cons_zero, List.getElem?_cons_succ, List.set_cons_zero, List.set_cons_succ, decide_true, decide_false, Bool.not_true, Bool.not_false, if_true, if_false, ite_true, ite_false, Bool.false_eq_true, true_and, and_true, truD, eq_self, Int.zero_add, e_objV hF.1]
  exact ⟨_, _, ls, ss, rfl, rfl, vw_loc hF.2.1, hf, .same bd_dI q⟩
theorem rd_File_content_M {ds : List D} {a : A} {Q : DQ} {E : Exq} (h : S_File_content_M ds a Q E) : t_File_content_M { nx := fun _ a' => Ret a Q .non a', rt := Ret a Q } (startD ["self"] ds) a := by
  obtain ⟨n, k, ls, ss, rfl, hF, hf, q⟩ := h
  show t_File_content_M _ [some (.loc n)] a
  unfold t_File_content_M
  simp only [e_var, e_C, e_op, e_un, e_test, e_tru, e_and, e_or, e_not, e_andV, e_orV, e_notV, e_if, e_nil, e_cons, e_lst, e_lstM, e_tup, e_N, e_R1, e_R2, e_call, e_meth, e_make, e_fld, e_bm, e_noPart, e_part, e_sl, e_yes, e_lc, e_seqI, e_goL, e_goScr, e_rng1, e_rng2, e_next, e_seq, e_set, e_asg, e_exp, e_ret, e_retN, e_sif, e_brk, e_cnt, e_sub, e_augsub, e_aug, e_sfld, e_augfld, e_for, e_chain, e_add, e_addI, e_addL, e_addT, e_addS, e_subI, e_mul, e_mulI, e_fdiv, e_mod, e_pow, e_shl, e_shr, e_band, e_bor, e_bxor, e_lt, e_le, e_gt, e_ge, e_neg, e_eqI, e_neI, e_eqS, e_neS, e_eqB, e_neB, e_eqNI, e_neNI, e_isNN, e_isIN, e_isSN, e_isBN, e_isTN, e_isLN, e_isON, e_isntNN, e_isntIN, e_isntSN, e_isntTN, e_isntLN, e_isntON, e_min2, e_max2, e_int1, e_int1b, e_lenL, e_lenT, e_lenKT, e_lenS, e_lenScr, e_listL, e_listT, e_outT, e_outF, e_slL, e_slT, e_ixL, e_ixT, e_ixKT, e_ixScr, e_isi1, e_isi2, e_tyN, e_tyB, e_tyI, e_tyS, e_tyL, e_tyT, e_tyKT, e_k_NoneType_int, e_k_NoneType_bool, e_k_NoneType_str, e_k_NoneType_list, e_k_NoneType_tuple, e_k_NoneType_dict, e_k_bool_int, e_k_bool_bool, e_k_bool_str, e_k_bool_list, e_k_bool_tuple, e_k_bool_dict, e_k_int_int, e_k_int_bool, e_k_int_str, e_k_int_list, e_k_int_tuple, e_k_int_dict, e_k_str_int, e_k_str_bool, e_k_str_str, e_k_str_list, e_k_str_tuple, e_k_str_dict, e_k_list_int, e_k_list_bool, e_k_list_str, e_k_list_list, e_k_list_tuple, e_k_list_dict, e_k_tuple_int, e_k_tuple_bool, e_k_tuple_str, e_k_tuple_list, e_k_tuple_tuple, e_k_tuple_dict, e_k_dict_int, e_k_dict_bool, e_k_dict_str, e_k_dict_list, e_k_dict_tuple, e_k_dict_dict, List.getElem?_cons_zero, List.getElem?_cons_succ, List.set_cons_zero, List.set_cons_succ, decide_true, decide_false, Bool.not_true, Bool.not_false, if_true, if_false, ite_true, ite_false, Bool.false_eq_true, true_and, and_true, truD, eq_self, Int.zero_add, e_objV hF.1]
  exact ⟨_, _, ls, ss, rfl, rfl, vw_loc hF.2.1, hf, fun g m hg hz => .gd (by rw [List.length_append]; omega) (.app .refl fun ao h => by obtain ⟨zs, rfl⟩ := hz ao h; exact bd_dI) (by show _ < _; have := (List.getElem?_eq_some_iff.1 hg).1; rw [List.length_append]; omega) (q g m hg hz)⟩
theorem rd_File_pending {ds : List D} {a : A} {Q : DQ} {E : Exq} (h : S_File_pending ds a Q E) : t_File_pending { nx := fun _ a' => Ret a Q .non a', rt := Ret a Q } (startD ["self"] ds) a := by
  obtain ⟨n, k, ls, ss, rfl, hF, q⟩ := h
  show t_File_pending _ [some (.loc n)] a
  unfold t_File_pending
  simp only [e_var, e_C, e_op, e_un, e_test, e_tru, e_and, e_or, e_not, e_andV, e_orV, e_notV, e_if, e_nil, e_cons, e_lst, e_lstM, e_tup, e_N, e_R1, e_R2, e_call, e_meth, e_make, e_fld, e_bm, e_noPart, e_part, e_sl, e_yes, e_lc, e_seqI, e_goL, e_goScr, e_rng1, e_rng2, e_next, e_seq, e_set, e_asg, e_exp, e_ret, e_retN, e_sif, e_brk, e_cnt, e_sub, e_augsub, e_aug, e_sfld, e_augfld, e_for, e_chain, e_add, e_addI, e_addL, e_addT, e_addS, e_subI, e_mul, e_mulI, e_fdiv, e_mod, e_pow, e_shl, e_shr, e_band, e_bor, e_bxor, e_lt, e_le, e_gt, e_ge, e_neg, e_eqI, e_neI, e_eqS, e_neS, e_eqB, e_neB, e_eqNI, e_neNI, e_isNN, e_isIN, e_isSN, e_isBN, e_isTN, e_isLN, e_isON, e_isntNN, e_isntIN, e_isntSN, e_isntTN, e_isntLN, e_isntON, e_min2, e_max2, e_int1, e_int1b, e_lenL, e_lenT, e_lenKT, e_lenS, e_lenScr, e_listL, e_listT, e_outT, e_outF, e_slL, e_slT, e_ixL, e_ixT, e_ixKT, e_ixScr, e_isi1, e_isi2, e_tyN, e_tyB, e_tyI, e_tyS, e_tyL, e_tyT, e_tyKT, e_k_NoneType_int, e_k_NoneType_bool, e_k_NoneType_str, e_k_NoneType_list, e_k_NoneType_tuple, e_k_NoneType_dict, e_k_bool_int, e_k_bool_bool, e_k_bool_str, e_k_bool_list, e_k_bool_tuple, e_k_bool_dict, e_k_int_int, e_k_int_bool, e_k_int_str, e_k_int_list, e_k_int_tuple, e_k_int_dict, e_k_str_int, e_k_str_bool, e_k_str_str, e_k_str_list, e_k_str_tuple, e_k_str_dict, e_k_list_int, e_k_list_bool, e_k_list_str, e_k_list_list, e_k_list_tuple, e_k_list_dict, e_k_tuple_int, e_k_tuple_bool, e_k_tuple_str, e_k_tuple_list, e_k_tuple_tuple, e_k_tuple_dict, e_k_dict_int, e_k_dict_bool, e_k_dict_str, e_k_dict_list, e_k_dict_tuple, e_k_dict_dict, List.getElem?_cons_zero, List.getElem?_cons_succ, List.set_cons_zero, List.set_cons_succ, decide_true, decide_false, Bool.not_true, Bool.not_false, if_true, if_false, ite_true, ite_false, Bool.false_eq_true, true_and, and_true, truD, eq_self, Int.zero_add, e_objV hF.1, e_lenO hF.2.1, List.length_map]
  exact .same True.intro q
end K9
set_option Elab.async false
set_option linter.all false
set_option maxRecDepth 100000
set_option maxHeartbeats 1000000
namespace K9
open PySem PySem.Spec PyProof.Rows L2 DW
theorem rd__law_mix {ds : List D} {a : A} {Q : DQ} {E : Exq} (h : S__law_mix ds a Q E) : t__law_mix { nx := fun _ a' => Ret a Q .non a', rt := Ret a Q } (startD ["cell", "k", "value"] ds) a := by
  obtain ⟨c, k, rfl, q⟩ := h
  show t__law_mix _ [some (.int c), some (.int k), none] a
  unfold t__law_mix
  refine seqG fun M hM => ?_
  simp only [e_var, e_C, e_op, e_un, e_test, e_tru, e_and, e_or, e_not, e_andV, e_orV, e_notV, e_if, e_nil, e_cons, e_lst, e_lstM, e_tup, e_N, e_R1, e_R2, e_call, e_meth, e_make, e_fld, e_bm, e_noPart, e_part, e_sl, e_yes, e_lc, e_seqI, e_goL, e_goScr, e_rng1, e_rng2, e_next, e_seq, e_set, e_asg, e_exp, e_ret, e_retN, e_sif, e_brk, e_cnt, e_sub, e_augsub, e_aug, e_sfld, e_augfld, e_for, e_chain, e_add, e_addI, e_addL, e_addT, e_addS, e_subI, e_mul, e_mulI, e_fdiv, e_mod, e_pow, e_shl, e_shr, e_band, e_bor, e_bxor, e_lt, e_le, e_gt, e_ge, e_neg, e_eqI, e_neI, e_eqS, e_neS, e_eqB, e_neB, e_eqNI, e_neNI, e_isNN, e_isIN, e_isSN, e_isBN, e_isTN, e_isLN, e_isON, e_isntNN, e_isntIN, e_isntSN, e_isntTN, e_isntLN, e_isntON, e_min2, e_max2, e_int1, e_int1b, e_lenL, e_lenT, e_lenKT, e_lenS, e_lenScr, e_listL, e_listT, e_outT, e_outF, e_slL, e_slT, e_ixL, e_ixT, e_ixKT, e_ixScr, e_isi1, e_isi2, e_tyN, e_tyB, e_tyI, e_tyS, e_tyL, e_tyT, e_tyKT, e_k_NoneType_int, e_k_NoneType_bool, e_k_NoneType_str, e_k_NoneType_list, e_k_NoneType_tuple, e_k_NoneType_dict, e_k_bool_int, e_k_bool_bool, e_k_bool_str, e_k_bool_list, e_k_bool_tuple, e_k_bool_dict, e_k_int_int, e_k_int_bool, e_k_int_str, e_k_int_list, e_k_int_tuple, e_k_int_dict, e_k_str_int, e_k_str_bool, e_k_str_str, e_k_str_list, e_k_str_tuple, e_k_str_dict, e_k_list_int, e_k_list_bool, e_k_list_str, e_k_list_list, e_k_list_tuple, e_k_list_dict, e_k_tuple_int, e_k_tuple_bool, e_k_tuple_str, e_k_tuple_list, e_k_tuple_tuple, e_k_tuple_dict, e_k_dict_int, e_k_dict_bool, e_k_dict_str, e_k_dict_list, e_k_dict_tuple, e_k_dict_dict, List.getElem?_cons_zero, List.getElem?_cons_succ, List.set_cons_zero, List.set_cons_succ, decide_true, decide_false, Bool.not_true, Bool.not_false, if_true, if_false, ite_true, ite_false, Bool.false_eq_true, true_and, and_true, truD, eq_self, Int.zero_add]
  refine ⟨cmulR (by decide), cmulR (by decide), by decide, ?_⟩
  subst hM
  refine seqG fun M hM => ?_
  generalize hv : (c * 48271 + k * 69621 + 12345) % 2147483647 = v
  have h0 : 0 ≤ v := by rw [← hv]; exact Int.emod_nonneg _ (by decide)
  have h1 : v < 2147483647 := by rw [← hv]; exact Int.emod_lt_of_pos _ (by decide)
  simp only [e_var, e_C, e_op, e_un, e_test, e_tru, e_and, e_or, e_not, e_andV, e_orV, e_notV, e_if, e_nil, e_cons, e_lst, e_lstM, e_tup, e_N, e_R1, e_R2, e_call, e_meth, e_make, e_fld, e_bm, e_noPart, e_part, e_sl, e_yes, e_lc, e_seqI, e_goL, e_goScr, e_rng1, e_rng2, e_next, e_seq, e_set, e_asg, e_exp, e_ret, e_retN, e_sif, e_brk, e_cnt, e_sub, e_augsub, e_aug, e_sfld, e_augfld, e_for, e_chain, e_add, e_addI, e_addL, e_addT, e_addS, e_subI, e_mul, e_mulI, e_fdiv, e_mod, e_pow, e_shl, e_shr, e_band, e_bor, e_bxor, e_lt, e_le, e_gt, e_ge, e_neg, e_eqI, e_neI, e_eqS, e_neS, e_eqB, e_neB, e_eqNI, e_neNI, e_isNN, e_isIN, e_isSN, e_isBN, e_isTN, e_isLN, e_isON, e_isntNN, e_isntIN, e_isntSN, e_isntTN, e_isntLN, e_isntON, e_min2, e_max2, e_int1, e_int1b, e_lenL, e_lenT, e_lenKT, e_lenS, e_lenScr, e_listL, e_listT, e_outT, e_outF, e_slL, e_slT, e_ixL, e_ixT, e_ixKT, e_ixScr, e_isi1, e_isi2, e_tyN, e_tyB, e_tyI, e_tyS, e_tyL, e_tyT, e_tyKT, e_k_NoneType_int, e_k_NoneType_bool, e_k_NoneType_str, e_k_NoneType_list, e_k_NoneType_tuple, e_k_NoneType_dict, e_k_bool_int, e_k_bool_bool, e_k_bool_str, e_k_bool_list, e_k_bool_tuple, e_k_bool_dict, e_k_int_int, e_k_int_bool, e_k_int_str, e_k_int_list, e_k_int_tuple, e_k_int_dict, e_k_str_int, e_k_str_bool, e_k_str_str, e_k_str_list, e_k_str_tuple, e_k_str_dict, e_k_list_int, e_k_list_bool, e_k_list_str, e_k_list_list, e_k_list_tuple, e_k_list_dict, e_k_tuple_int, e_k_tuple_bool, e_k_tuple_str, e_k_tuple_list, e_k_tuple_tuple, e_k_tuple_dict, e_k_dict_int, e_k_dict_bool, e_k_dict_str, e_k_dict_list, e_k_dict_tuple, e_k_dict_dict, List.getElem?_cons_zero, List.getElem?_cons_succ, List.set_cons_zero, List.set_cons_succ, decide_true, decide_false, Bool.not_true, Bool.not_false, if_true, if_false, ite_true, ite_false, Bool.false_eq_true, true_and, and_true, truD, eq_self, Int.zero_add]
  refine ⟨cmulR (by omega), cmulR (by decide), by decide, ?_⟩
  subst hM
  simp only [e_var, e_C, e_op, e_un, e_test, e_tru, e_and, e_or, e_not, e_andV, e_orV, e_notV, e_if, e_nil, e_cons, e_lst, e_lstM, e_tup, e_N, e_R1, e_R2, e_call, e_meth, e_make, e_fld, e_bm, e_noPart, e_part, e_sl, e_yes, e_lc, e_seqI, e_goL, e_goScr, e_rng1, e_rng2, e_next, e_seq, e_set, e_asg, e_exp, e_ret, e_retN, e_sif, e_brk, e_cnt, e_sub, e_augsub, e_aug, e_sfld, e_augfld, e_for, e_chain, e_add, e_addI, e_addL, e_addT, e_addS, e_subI, e_mul, e_mulI, e_fdiv, e_mod, e_pow, e_shl, e_shr, e_band, e_bor, e_bxor, e_lt, e_le, e_gt, e_ge, e_neg, e_eqI, e_neI, e_eqS, e_neS, e_eqB, e_neB, e_eqNI, e_neNI, e_isNN, e_isIN, e_isSN, e_isBN, e_isTN, e_isLN, e_isON, e_isntNN, e_isntIN, e_isntSN, e_isntTN, e_isntLN, e_isntON, e_min2, e_max2, e_int1, e_int1b, e_lenL, e_lenT, e_lenKT, e_lenS, e_lenScr, e_listL, e_listT, e_outT, e_outF, e_slL, e_slT, e_ixL, e_ixT, e_ixKT, e_ixScr, e_isi1, e_isi2, e_tyN, e_tyB, e_tyI, e_tyS, e_tyL, e_tyT, e_tyKT, e_k_NoneType_int, e_k_NoneType_bool, e_k_NoneType_str, e_k_NoneType_list, e_k_NoneType_tuple, e_k_NoneType_dict, e_k_bool_int, e_k_bool_bool, e_k_bool_str, e_k_bool_list, e_k_bool_tuple, e_k_bool_dict, e_k_int_int, e_k_int_bool, e_k_int_str, e_k_int_list, e_k_int_tuple, e_k_int_dict, e_k_str_int, e_k_str_bool, e_k_str_str, e_k_str_list, e_k_str_tuple, e_k_str_dict, e_k_list_int, e_k_list_bool, e_k_list_str, e_k_list_list, e_k_list_tuple, e_k_list_dict, e_k_tuple_int, e_k_tuple_bool, e_k_tuple_str, e_k_tuple_list, e_k_tuple_tuple, e_k_tuple_dict, e_k_dict_int, e_k_dict_bool, e_k_dict_str, e_k_dict_list, e_k_dict_tuple, e_k_dict_dict, List.getElem?_cons_zero, List.getElem?_cons_succ, List.set_cons_zero, List.set_cons_succ, decide_true, decide_false, Bool.not_true, Bool.not_false, if_true, if_false, ite_true, ite_false, Bool.false_eq_true, true_and, and_true, truD, eq_self, Int.zero_add]
  exact ⟨by decide, by decide, .same True.intro (q _)⟩
theorem rd__law_draws {ds : List D} {a : A} {Q : DQ} {E : Exq} (h : S__law_draws ds a Q E) : t__law_draws { nx := fun _ a' => Ret a Q .non a', rt := Ret a Q } (startD ["script", "draws", "k", "cell", "place"] ds) a := by
  obtain ⟨ns, rfl, q⟩ := h
  show t__law_draws _ [some (.scr ns), none, none, none, none] a
  unfold t__law_draws
  refine seqG fun M hM => ?_
  simp only [e_var, e_C, e_op, e_un, e_test, e_tru, e_and, e_or, e_not, e_andV, e_orV, e_notV, e_if, e_nil, e_cons, e_lst, e_lstM, e_tup, e_N, e_R1, e_R2, e_call, e_meth, e_make, e_fld, e_bm, e_noPart, e_part, e_sl, e_yes, e_lc, e_seqI, e_goL, e_goScr, e_rng1, e_rng2, e_next, e_seq, e_set, e_asg, e_exp, e_ret, e_retN, e_sif, e_brk, e_cnt, e_sub, e_augsub, e_aug, e_sfld, e_augfld, e_for, e_chain, e_add, e_addI, e_addL, e_addT, e_addS, e_subI, e_mul, e_mulI, e_fdiv, e_mod, e_pow, e_shl, e_shr, e_band, e_bor, e_bxor, e_lt, e_le, e_gt, e_ge, e_neg, e_eqI, e_neI, e_eqS, e_neS, e_eqB, e_neB, e_eqNI, e_neNI, e_isNN, e_isIN, e_isSN, e_isBN, e_isTN, e_isLN, e_isON, e_isntNN, e_isntIN, e_isntSN, e_isntTN, e_isntLN, e_isntON, e_min2, e_max2, e_int1, e_int1b, e_lenL, e_lenT, e_lenKT, e_lenS, e_lenScr, e_listL, e_listT, e_outT, e_outF, e_slL, e_slT, e_ixL, e_ixT, e_ixKT, e_ixScr, e_isi1, e_isi2, e_tyN, e_tyB, e_tyI, e_tyS, e_tyL, e_tyT, e_tyKT, e_k_NoneType_int, e_k_NoneType_bool, e_k_NoneType_str, e_k_NoneType_list, e_k_NoneType_tuple, e_k_NoneType_dict, e_k_bool_int, e_k_bool_bool, e_k_bool_str, e_k_bool_list, e_k_bool_tuple, e_k_bool_dict, e_k_int_int, e_k_int_bool, e_k_int_str, e_k_int_list, e_k_int_tuple, e_k_int_dict, e_k_str_int, e_k_str_bool, e_k_str_str, e_k_str_list, e_k_str_tuple, e_k_str_dict, e_k_list_int, e_k_list_bool, e_k_list_str, e_k_list_list, e_k_list_tuple, e_k_list_dict, e_k_tuple_int, e_k_tuple_bool, e_k_tuple_str, e_k_tuple_list, e_k_tuple_tuple, e_k_tuple_dict, e_k_dict_int, e_k_dict_bool, e_k_dict_str, e_k_dict_list, e_k_dict_tuple, e_k_dict_dict, List.getElem?_cons_zero, List.getElem?_cons_succ, List.set_cons_zero, List.set_cons_succ, decide_true, decide_false, Bool.not_true, Bool.not_false, if_true, if_false, ite_true, ite_false, Bool.false_eq_true, true_and, and_true, truD, eq_self, Int.zero_add]
  refine ⟨fits_small (by simp), ?_⟩
  subst hM
  refine seqG fun M hM => ?_
  simp only [e_var, e_C, e_op, e_un, e_test, e_tru, e_and, e_or, e_not, e_andV, e_orV, e_notV, e_if, e_nil, e_cons, e_lst, e_lstM, e_tup, e_N, e_R1, e_R2, e_call, e_meth, e_make, e_fld, e_bm, e_noPart, e_part, e_sl, e_yes, e_lc, e_seqI, e_goL, e_goScr, e_rng1, e_rng2, e_next, e_seq, e_set, e_asg, e_exp, e_ret, e_retN, e_sif, e_brk, e_cnt, e_sub, e_augsub, e_aug, e_sfld, e_augfld, e_for, e_chain, e_add, e_addI, e_addL, e_addT, e_addS, e_subI, e_mul, e_mulI, e_fdiv, e_mod, e_pow, e_shl, e_shr, e_band, e_bor, e_bxor, e_lt, e_le, e_gt, e_ge, e_neg, e_eqI, e_neI, e_eqS, e_neS, e_eqB, e_neB, e_eqNI, e_neNI, e_isNN, e_isIN, e_isSN, e_isBN, e_isTN, e_isLN, e_isON, e_isntNN, e_isntIN, e_isntSN, e_isntTN, e_isntLN, e_isntON, e_min2, e_max2, e_int1, e_int1b, e_lenL, e_lenT, e_lenKT, e_lenS, e_lenScr, e_listL, e_listT, e_outT, e_outF, e_slL, e_slT, e_ixL, e_ixT, e_ixKT, e_ixScr, e_isi1, e_isi2, e_tyN, e_tyB, e_tyI, e_tyS, e_tyL, e_tyT, e_tyKT, e_k_NoneType_int, e_k_NoneType_bool, e_k_NoneType_str, e_k_NoneType_list, e_k_NoneType_tuple, e_k_NoneType_dict, e_k_bool_int, e_k_bool_bool, e_k_bool_str, e_k_bool_list, e_k_bool_tuple, e_k_bool_dict, e_k_int_int, e_k_int_bool, e_k_int_str, e_k_int_list, e_k_int_tuple, e_k_int_dict, e_k_str_int, e_k_str_bool, e_k_str_str, e_k_str_list, e_k_str_tuple, e_k_str_dict, e_k_list_int, e_k_list_bool, e_k_list_str, e_k_list_list, e_k_list_tuple, e_k_list_dict, e_k_tuple_int, e_k_tuple_bool, e_k_tuple_str, e_k_tuple_list, e_k_tuple_tuple, e_k_tuple_dict, e_k_dict_int, e_k_dict_bool, e_k_dict_str, e_k_dict_list, e_k_dict_tuple, e_k_dict_dict, List.getElem?_cons_zero, List.getElem?_cons_succ, List.set_cons_zero, List.set_cons_succ, decide_true, decide_false, Bool.not_true, Bool.not_false, if_true, if_false, ite_true, ite_false, Bool.false_eq_true, true_and, and_true, truD, eq_self, Int.zero_add]
  refine ⟨by split <;> omega, by split <;> omega, ?_⟩
  have gl : ∀ ms : List Int, (a ++ [AO.lst (dI ms)])[a.length]? = some (.lst (dI ms)) := fun ms => by rw [List.getElem?_append_right (Nat.le_refl _), Nat.sub_self]; rfl
  have gs : ∀ (ms : List Int) (x : AO), (a ++ [AO.lst (dI ms)]).set a.length x = a ++ [x] := fun ms x => by rw [List.set_append_right _ _ (Nat.le_refl _), Nat.sub_self]; rfl
  refine forW_inv (I := fun i ρ a' => ∃ (ms : List Int) (x y z : Option D), a' = a ++ [AO.lst (dI ms)] ∧ ρ = [some (.scr ns), some (.loc a.length), x, y, z] ∧ ms.length ≤ 60 * i) (fun _ _ _ _ => True.intro) ?_ ?_ ⟨[], none, none, none, rfl, rfl, Nat.le_refl _⟩
  · rintro i d ρ a' M' hd ⟨ms, x, y, z, rfl, rfl, hl⟩ hM'
    obtain ⟨rfl, hi⟩ := rngD_get hd
    have hi' : i < ns.length ∧ i < 63 := by split at hi <;> omega
    refine ⟨_, rfl, ?_⟩
    refine seqG fun M1 hM1 => ?_
    simp only [e_var, e_C, e_op, e_un, e_test, e_tru, e_and, e_or, e_not, e_andV, e_orV, e_notV, e_if, e_nil, e_cons, e_lst, e_lstM, e_tup, e_N, e_R1, e_R2, e_call, e_meth, e_make, e_fld, e_bm, e_noPart, e_part, e_sl, e_yes, e_lc, e_seqI, e_goL, e_goScr, e_rng1, e_rng2, e_next, e_seq, e_set, e_asg, e_exp, e_ret, e_retN, e_sif, e_brk, e_cnt, e_sub, e_augsub, e_aug, e_sfld, e_augfld, e_for, e_chain, e_add, e_addI, e_addL, e_addT, e_addS, e_subI, e_mul, e_mulI, e_fdiv, e_mod, e_pow, e_shl, e_shr, e_band, e_bor, e_bxor, e_lt, e_le, e_gt, e_ge, e_neg, e_eqI, e_neI, e_eqS, e_neS, e_eqB, e_neB, e_eqNI, e_neNI, e_isNN, e_isIN, e_isSN, e_isBN, e_isTN, e_isLN, e_isON, e_isntNN, e_isntIN, e_isntSN, e_isntTN, e_isntLN, e_isntON, e_min2, e_max2, e_int1, e_int1b, e_lenL, e_lenT, e_lenKT, e_lenS, e_lenScr, e_listL, e_listT, e_outT, e_outF, e_slL, e_slT, e_ixL, e_ixT, e_ixKT, e_ixScr, e_isi1, e_isi2, e_tyN, e_tyB, e_tyI, e_tyS, e_tyL, e_tyT, e_tyKT, e_k_NoneType_int, e_k_NoneType_bool, e_k_NoneType_str, e_k_NoneType_list, e_k_NoneType_tuple, e_k_NoneType_dict, e_k_bool_int, e_k_bool_bool, e_k_bool_str, e_k_bool_list, e_k_bool_tuple, e_k_bool_dict, e_k_int_int, e_k_int_bool, e_k_int_str, e_k_int_list, e_k_int_tuple, e_k_int_dict, e_k_str_int, e_k_str_bool, e_k_str_str, e_k_str_list, e_k_str_tuple, e_k_str_dict, e_k_list_int, e_k_list_bool, e_k_list_str, e_k_list_list, e_k_list_tuple, e_k_list_dict, e_k_tuple_int, e_k_tuple_bool, e_k_tuple_str, e_k_tuple_list, e_k_tuple_tuple, e_k_tuple_dict, e_k_dict_int, e_k_dict_bool, e_k_dict_str, e_k_dict_list, e_k_dict_tuple, e_k_dict_dict, List.getElem?_cons_zero, List.getElem?_cons_succ, List.set_cons_zero, List.set_cons_succ, decide_true, decide_false, Bool.not_true, Bool.not_false, if_true, if_false, ite_true, ite_false, Bool.false_eq_true, true_and, and_true, truD, eq_self, Int.zero_add, atI_intN hi'.1]
    subst hM1
    generalize ns[i]'hi'.1 = c
    refine ifG fun T F hT hF => ?_
    simp only [e_var, e_C, e_op, e_un, e_test, e_tru, e_and, e_or, e_not, e_andV, e_orV, e_notV, e_if, e_nil, e_cons, e_lst, e_lstM, e_tup, e_N, e_R1, e_R2, e_call, e_meth, e_make, e_fld, e_bm, e_noPart, e_part, e_sl, e_yes, e_lc, e_seqI, e_goL, e_goScr, e_rng1, e_rng2, e_next, e_seq, e_set, e_asg, e_exp, e_ret, e_retN, e_sif, e_brk, e_cnt, e_sub, e_augsub, e_aug, e_sfld, e_augfld, e_for, e_chain, e_add, e_addI, e_addL, e_addT, e_addS, e_subI, e_mul, e_mulI, e_fdiv, e_mod, e_pow, e_shl, e_shr, e_band, e_bor, e_bxor, e_lt, e_le, e_gt, e_ge, e_neg, e_eqI, e_neI, e_eqS, e_neS, e_eqB, e_neB, e_eqNI, e_neNI, e_isNN, e_isIN, e_isSN, e_isBN, e_isTN, e_isLN, e_isON, e_isntNN, e_isntIN, e_isntSN, e_isntTN, e_isntLN, e_isntON, e_min2, e_max2, e_int1, e_int1b, e_lenL, e_lenT, e_lenKT, e_lenS, e_lenScr, e_listL, e_listT, e_outT, e_outF, e_slL, e_slT, e_ixL, e_ixT, e_ixKT, e_ixScr, e_isi1, e_isi2, e_tyN, e_tyB, e_tyI, e_tyS, e_tyL, e_tyT, e_tyKT, e_k_NoneType_int, e_k_NoneType_bool, e_k_NoneType_str, e_k_NoneType_list, e_k_NoneType_tuple, e_k_NoneType_dict, e_k_bool_int, e_k_bool_bool, e_k_bool_str, e_k_bool_list, e_k_bool_tuple, e_k_bool_dict, e_k_int_int, e_k_int_bool, e_k_int_str, e_k_int_list, e_k_int_tuple, e_k_int_dict, e_k_str_int, e_k_str_bool, e_k_str_str, e_k_str_list, e_k_str_tuple, e_k_str_dict, e_k_list_int, e_k_list_bool, e_k_list_str, e_k_list_list, e_k_list_tuple, e_k_list_dict, e_k_tuple_int, e_k_tuple_bool, e_k_tuple_str, e_k_tuple_list, e_k_tuple_tuple, e_k_tuple_dict, e_k_dict_int, e_k_dict_bool, e_k_dict_str, e_k_dict_list, e_k_dict_tuple, e_k_dict_dict, List.getElem?_cons_zero, List.getElem?_cons_succ, List.set_cons_zero, List.set_cons_succ, decide_true, decide_false, Bool.not_true, Bool.not_false, if_true, if_false, ite_true, ite_false, Bool.false_eq_true, true_and, and_true, truD, eq_self, Int.zero_add]
    refine ⟨by decide, ?_⟩
    split
    · subst hT
      simp only [e_var, e_C, e_op, e_un, e_test, e_tru, e_and, e_or, e_not, e_andV, e_orV, e_notV, e_if, e_nil, e_cons, e_lst, e_lstM, e_tup, e_N, e_R1, e_R2, e_call, e_meth, e_make, e_fld, e_bm, e_noPart, e_part, e_sl, e_yes, e_lc, e_seqI, e_goL, e_goScr, e_rng1, e_rng2, e_next, e_seq, e_set, e_asg, e_exp, e_ret, e_retN, e_sif, e_brk, e_cnt, e_sub, e_augsub, e_aug, e_sfld, e_augfld, e_for, e_chain, e_add, e_addI, e_addL, e_addT, e_addS, e_subI, e_mul, e_mulI, e_fdiv, e_mod, e_pow, e_shl, e_shr, e_band, e_bor, e_bxor, e_lt, e_le, e_gt, e_ge, e_neg, e_eqI, e_neI, e_eqS, e_neS, e_eqB, e_neB, e_eqNI, e_neNI, e_isNN, e_isIN, e_isSN, e_isBN, e_isTN, e_isLN, e_isON, e_isntNN, e_isntIN, e_isntSN, e_isntTN, e_isntLN, e_isntON, e_min2, e_max2, e_int1, e_int1b, e_lenL, e_lenT, e_lenKT, e_lenS, e_lenScr, e_listL, e_listT, e_outT, e_outF, e_slL, e_slT, e_ixL, e_ixT, e_ixKT, e_ixScr, e_isi1, e_isi2, e_tyN, e_tyB, e_tyI, e_tyS, e_tyL, e_tyT, e_tyKT, e_k_NoneType_int, e_k_NoneType_bool, e_k_NoneType_str, e_k_NoneType_list, e_k_NoneType_tuple, e_k_NoneType_dict, e_k_bool_int, e_k_bool_bool, e_k_bool_str, e_k_bool_list, e_k_bool_tuple, e_k_bool_dict, e_k_int_int, e_k_int_bool, e_k_int_str, e_k_int_list, e_k_int_tuple, e_k_int_dict, e_k_str_int, e_k_str_bool, e_k_str_str, e_k_str_list, e_k_str_tuple, e_k_str_dict, e_k_list_int, e_k_list_bool, e_k_list_str, e_k_list_list, e_k_list_tuple, e_k_list_dict, e_k_tuple_int, e_k_tuple_bool, e_k_tuple_str, e_k_tuple_list, e_k_tuple_tuple, e_k_tuple_dict, e_k_dict_int, e_k_dict_bool, e_k_dict_str, e_k_dict_list, e_k_dict_tuple, e_k_dict_dict, List.getElem?_cons_zero, List.getElem?_cons_succ, List.set_cons_zero, List.set_cons_succ, decide_true, decide_false, Bool.not_true, Bool.not_false, if_true, if_false, ite_true, ite_false, Bool.false_eq_true, true_and, and_true, truD, eq_self, Int.zero_add, e_isL (gl _)]
      refine ⟨c, i, rfl, fun v => ?_⟩
      dsimp only
      rw [e_append (gl _), dI_len]
      refine ⟨fits_small (by omega), ?_⟩
      rw [gs]
      refine hM' _ _ ⟨ms ++ [v], _, _, _, ?_, rfl, by rw [List.length_append]; simp; omega⟩
      rw [← dI_app]; rfl
    · subst hF
      simp only [e_var, e_C, e_op, e_un, e_test, e_tru, e_and, e_or, e_not, e_andV, e_orV, e_notV, e_if, e_nil, e_cons, e_lst, e_lstM, e_tup, e_N, e_R1, e_R2, e_call, e_meth, e_make, e_fld, e_bm, e_noPart, e_part, e_sl, e_yes, e_lc, e_seqI, e_goL, e_goScr, e_rng1, e_rng2, e_next, e_seq, e_set, e_asg, e_exp, e_ret, e_retN, e_sif, e_brk, e_cnt, e_sub, e_augsub, e_aug, e_sfld, e_augfld, e_for, e_chain, e_add, e_addI, e_addL, e_addT, e_addS, e_subI, e_mul, e_mulI, e_fdiv, e_mod, e_pow, e_shl, e_shr, e_band, e_bor, e_bxor, e_lt, e_le, e_gt, e_ge, e_neg, e_eqI, e_neI, e_eqS, e_neS, e_eqB, e_neB, e_eqNI, e_neNI, e_isNN, e_isIN, e_isSN, e_isBN, e_isTN, e_isLN, e_isON, e_isntNN, e_isntIN, e_isntSN, e_isntTN, e_isntLN, e_isntON, e_min2, e_max2, e_int1, e_int1b, e_lenL, e_lenT, e_lenKT, e_lenS, e_lenScr, e_listL, e_listT, e_outT, e_outF, e_slL, e_slT, e_ixL, e_ixT, e_ixKT, e_ixScr, e_isi1, e_isi2, e_tyN, e_tyB, e_tyI, e_tyS, e_tyL, e_tyT, e_tyKT, e_k_NoneType_int, e_k_NoneType_bool, e_k_NoneType_str, e_k_NoneType_list, e_k_NoneType_tuple, e_k_NoneType_dict, e_k_bool_int, e_k_bool_bool, e_k_bool_str, e_k_bool_list, e_k_bool_tuple, e_k_bool_dict, e_k_int_int, e_k_int_bool, e_k_int_str, e_k_int_list, e_k_int_tuple, e_k_int_dict, e_k_str_int, e_k_str_bool, e_k_str_str, e_k_str_list, e_k_str_tuple, e_k_str_dict, e_k_list_int, e_k_list_bool, e_k_list_str, e_k_list_list, e_k_list_tuple, e_k_list_dict, e_k_tuple_int, e_k_tuple_bool, e_k_tuple_str, e_k_tuple_list, e_k_tuple_tuple, e_k_tuple_dict, e_k_dict_int, e_k_dict_bool, e_k_dict_str, e_k_dict_list, e_k_dict_tuple, e_k_dict_dict, List.getElem?_cons_zero, List.getElem?_cons_succ, List.set_cons_zero, List.set_cons_succ, decide_true, decide_false, Bool.not_true, Bool.not_false, if_true, if_false, ite_true, ite_false, Bool.false_eq_true, true_and, and_true, truD, eq_self, Int.zero_add]
      refine ⟨by decide, by decide, ?_⟩
      refine forW_inv (I := fun p ρ a' => ∃ (ms : List Int) (c : Int) (z : Option D), a' = a ++ [AO.lst (dI ms)] ∧ ρ = [some (.scr ns), some (.loc a.length), some (.int i), some (.int c), z] ∧ ms.length ≤ 60 * i + p) (fun _ _ _ _ => True.intro) ?_ ?_ ⟨ms, c, z, rfl, rfl, by omega⟩
      · rintro p d ρ a' M2 hd ⟨ms, c, z, rfl, rfl, hl⟩ hM2
        obtain ⟨rfl, hp⟩ := rngD_get hd
        have hp' : p < 60 := hp
        refine ⟨_, rfl, ?_⟩
        refine ifG fun T F hT hF => ?_
        simp only [e_var, e_C, e_op, e_un, e_test, e_tru, e_and, e_or, e_not, e_andV, e_orV, e_notV, e_if, e_nil, e_cons, e_lst, e_lstM, e_tup, e_N, e_R1, e_R2, e_call, e_meth, e_make, e_fld, e_bm, e_noPart, e_part, e_sl, e_yes, e_lc, e_seqI, e_goL, e_goScr, e_rng1, e_rng2, e_next, e_seq, e_set, e_asg, e_exp, e_ret, e_retN, e_sif, e_brk, e_cnt, e_sub, e_augsub, e_aug, e_sfld, e_augfld, e_for, e_chain, e_add, e_addI, e_addL, e_addT, e_addS, e_subI, e_mul, e_mulI, e_fdiv, e_mod, e_pow, e_shl, e_shr, e_band, e_bor, e_bxor, e_lt, e_le, e_gt, e_ge, e_neg, e_eqI, e_neI, e_eqS, e_neS, e_eqB, e_neB, e_eqNI, e_neNI, e_isNN, e_isIN, e_isSN, e_isBN, e_isTN, e_isLN, e_isON, e_isntNN, e_isntIN, e_isntSN, e_isntTN, e_isntLN, e_isntON, e_min2, e_max2, e_int1, e_int1b, e_lenL, e_lenT, e_lenKT, e_lenS, e_lenScr, e_listL, e_listT, e_outT, e_outF, e_slL, e_slT, e_ixL, e_ixT, e_ixKT, e_ixScr, e_isi1, e_isi2, e_tyN, e_tyB, e_tyI, e_tyS, e_tyL, e_tyT, e_tyKT, e_k_NoneType_int, e_k_NoneType_bool, e_k_NoneType_str, e_k_NoneType_list, e_k_NoneType_tuple, e_k_NoneType_dict, e_k_bool_int, e_k_bool_bool, e_k_bool_str, e_k_bool_list, e_k_bool_tuple, e_k_bool_dict, e_k_int_int, e_k_int_bool, e_k_int_str, e_k_int_list, e_k_int_tuple, e_k_int_dict, e_k_str_int, e_k_str_bool, e_k_str_str, e_k_str_list, e_k_str_tuple, e_k_str_dict, e_k_list_int, e_k_list_bool, e_k_list_str, e_k_list_list, e_k_list_tuple, e_k_list_dict, e_k_tuple_int, e_k_tuple_bool, e_k_tuple_str, e_k_tuple_list, e_k_tuple_tuple, e_k_tuple_dict, e_k_dict_int, e_k_dict_bool, e_k_dict_str, e_k_dict_list, e_k_dict_tuple, e_k_dict_dict, List.getElem?_cons_zero, List.getElem?_cons_succ, List.set_cons_zero, List.set_cons_succ, decide_true, decide_false, Bool.not_true, Bool.not_false, if_true, if_false, ite_true, ite_false, Bool.false_eq_true, true_and, and_true, truD, eq_self, Int.zero_add]
        split
        · subst hT
          refine seqG fun M1 hM1 => ?_
          simp only [e_var, e_C, e_op, e_un, e_test, e_tru, e_and, e_or, e_not, e_andV, e_orV, e_notV, e_if, e_nil, e_cons, e_lst, e_lstM, e_tup, e_N, e_R1, e_R2, e_call, e_meth, e_make, e_fld, e_bm, e_noPart, e_part, e_sl, e_yes, e_lc, e_seqI, e_goL, e_goScr, e_rng1, e_rng2, e_next, e_seq, e_set, e_asg, e_exp, e_ret, e_retN, e_sif, e_brk, e_cnt, e_sub, e_augsub, e_aug, e_sfld, e_augfld, e_for, e_chain, e_add, e_addI, e_addL, e_addT, e_addS, e_subI, e_mul, e_mulI, e_fdiv, e_mod, e_pow, e_shl, e_shr, e_band, e_bor, e_bxor, e_lt, e_le, e_gt, e_ge, e_neg, e_eqI, e_neI, e_eqS, e_neS, e_eqB, e_neB, e_eqNI, e_neNI, e_isNN, e_isIN, e_isSN, e_isBN, e_isTN, e_isLN, e_isON, e_isntNN, e_isntIN, e_isntSN, e_isntTN, e_isntLN, e_isntON, e_min2, e_max2, e_int1, e_int1b, e_lenL, e_lenT, e_lenKT, e_lenS, e_lenScr, e_listL, e_listT, e_outT, e_outF, e_slL, e_slT, e_ixL, e_ixT, e_ixKT, e_ixScr, e_isi1, e_isi2, e_tyN, e_tyB, e_tyI, e_tyS, e_tyL, e_tyT, e_tyKT, e_k_NoneType_int, e_k_NoneType_bool, e_k_NoneType_str, e_k_NoneType_list, e_k_NoneType_tuple, e_k_NoneType_dict, e_k_bool_int, e_k_bool_bool, e_k_bool_str, e_k_bool_list, e_k_bool_tuple, e_k_bool_dict, e_k_int_int, e_k_int_bool, e_k_int_str, e_k_int_list, e_k_int_tuple, e_k_int_dict, e_k_str_int, e_k_str_bool, e_k_str_str, e_k_str_list, e_k_str_tuple, e_k_str_dict, e_k_list_int, e_k_list_bool, e_k_list_str, e_k_list_list, e_k_list_tuple, e_k_list_dict, e_k_tuple_int, e_k_tuple_bool, e_k_tuple_str, e_k_tuple_list, e_k_tuple_tuple, e_k_tuple_dict, e_k_dict_int, e_k_dict_bool, e_k_dict_str, e_k_dict_list, e_k_dict_tuple, e_k_dict_dict, List.getElem?_cons_zero, List.getElem?_cons_succ, List.set_cons_zero, List.set_cons_succ, decide_true, decide_false, Bool.not_true, Bool.not_false, if_true, if_false, ite_true, ite_false, Bool.false_eq_true, true_and, and_true, truD, eq_self, Int.zero_add, e_isL (gl _), e_append (gl _), dI_len]
          refine ⟨by decide, fits_small (by omega), ?_⟩
          subst hM1
          simp only [e_var, e_C, e_op, e_un, e_test, e_tru, e_and, e_or, e_not, e_andV, e_orV, e_notV, e_if, e_nil, e_cons, e_lst, e_lstM, e_tup, e_N, e_R1, e_R2, e_call, e_meth, e_make, e_fld, e_bm, e_noPart, e_part, e_sl, e_yes, e_lc, e_seqI, e_goL, e_goScr, e_rng1, e_rng2, e_next, e_seq, e_set, e_asg, e_exp, e_ret, e_retN, e_sif, e_brk, e_cnt, e_sub, e_augsub, e_aug, e_sfld, e_augfld, e_for, e_chain, e_add, e_addI, e_addL, e_addT, e_addS, e_subI, e_mul, e_mulI, e_fdiv, e_mod, e_pow, e_shl, e_shr, e_band, e_bor, e_bxor, e_lt, e_le, e_gt, e_ge, e_neg, e_eqI, e_neI, e_eqS, e_neS, e_eqB, e_neB, e_eqNI, e_neNI, e_isNN, e_isIN, e_isSN, e_isBN, e_isTN, e_isLN, e_isON, e_isntNN, e_isntIN, e_isntSN, e_isntTN, e_isntLN, e_isntON, e_min2, e_max2, e_int1, e_int1b, e_lenL, e_lenT, e_lenKT, e_lenS, e_lenScr, e_listL, e_listT, e_outT, e_outF, e_slL, e_slT, e_ixL, e_ixT, e_ixKT, e_ixScr, e_isi1, e_isi2, e_tyN, e_tyB, e_tyI, e_tyS, e_tyL, e_tyT, e_tyKT, e_k_NoneType_int, e_k_NoneType_bool, e_k_NoneType_str, e_k_NoneType_list, e_k_NoneType_tuple, e_k_NoneType_dict, e_k_bool_int, e_k_bool_bool, e_k_bool_str, e_k_bool_list, e_k_bool_tuple, e_k_bool_dict, e_k_int_int, e_k_int_bool, e_k_int_str, e_k_int_list, e_k_int_tuple, e_k_int_dict, e_k_str_int, e_k_str_bool, e_k_str_str, e_k_str_list, e_k_str_tuple, e_k_str_dict, e_k_list_int, e_k_list_bool, e_k_list_str, e_k_list_list, e_k_list_tuple, e_k_list_dict, e_k_tuple_int, e_k_tuple_bool, e_k_tuple_str, e_k_tuple_list, e_k_tuple_tuple, e_k_tuple_dict, e_k_dict_int, e_k_dict_bool, e_k_dict_str, e_k_dict_list, e_k_dict_tuple, e_k_dict_dict, List.getElem?_cons_zero, List.getElem?_cons_succ, List.set_cons_zero, List.set_cons_succ, decide_true, decide_false, Bool.not_true, Bool.not_false, if_true, if_false, ite_true, ite_false, Bool.false_eq_true, true_and, and_true, truD, eq_self, Int.zero_add]
          refine ⟨by decide, ?_⟩
          rw [gs]
          refine hM2 _ _ ⟨ms ++ [c % 9973], _, _, ?_, rfl, by rw [List.length_append]; simp; omega⟩
          rw [← dI_app]; rfl
        · subst hF
          simp only [e_var, e_C, e_op, e_un, e_test, e_tru, e_and, e_or, e_not, e_andV, e_orV, e_notV, e_if, e_nil, e_cons, e_lst, e_lstM, e_tup, e_N, e_R1, e_R2, e_call, e_meth, e_make, e_fld, e_bm, e_noPart, e_part, e_sl, e_yes, e_lc, e_seqI, e_goL, e_goScr, e_rng1, e_rng2, e_next, e_seq, e_set, e_asg, e_exp, e_ret, e_retN, e_sif, e_brk, e_cnt, e_sub, e_augsub, e_aug, e_sfld, e_augfld, e_for, e_chain, e_add, e_addI, e_addL, e_addT, e_addS, e_subI, e_mul, e_mulI, e_fdiv, e_mod, e_pow, e_shl, e_shr, e_band, e_bor, e_bxor, e_lt, e_le, e_gt, e_ge, e_neg, e_eqI, e_neI, e_eqS, e_neS, e_eqB, e_neB, e_eqNI, e_neNI, e_isNN, e_isIN, e_isSN, e_isBN, e_isTN, e_isLN, e_isON, e_isntNN, e_isntIN, e_isntSN, e_isntTN, e_isntLN, e_isntON, e_min2, e_max2, e_int1, e_int1b, e_lenL, e_lenT, e_lenKT, e_lenS, e_lenScr, e_listL, e_listT, e_outT, e_outF, e_slL, e_slT, e_ixL, e_ixT, e_ixKT, e_ixScr, e_isi1, e_isi2, e_tyN, e_tyB, e_tyI, e_tyS, e_tyL, e_tyT, e_tyKT, e_k_NoneType_int, e_k_NoneType_bool, e_k_NoneType_str, e_k_NoneType_list, e_k_NoneType_tuple, e_k_NoneType_dict, e_k_bool_int, e_k_bool_bool, e_k_bool_str, e_k_bool_list, e_k_bool_tuple, e_k_bool_dict, e_k_int_int, e_k_int_bool, e_k_int_str, e_k_int_list, e_k_int_tuple, e_k_int_dict, e_k_str_int, e_k_str_bool, e_k_str_str, e_k_str_list, e_k_str_tuple, e_k_str_dict, e_k_list_int, e_k_list_bool, e_k_list_str, e_k_list_list, e_k_list_tuple, e_k_list_dict, e_k_tuple_int, e_k_tuple_bool, e_k_tuple_str, e_k_tuple_list, e_k_tuple_tuple, e_k_tuple_dict, e_k_dict_int, e_k_dict_bool, e_k_dict_str, e_k_dict_list, e_k_dict_tuple, e_k_dict_dict, List.getElem?_cons_zero, List.getElem?_cons_succ, List.set_cons_zero, List.set_cons_succ, decide_true, decide_false, Bool.not_true, Bool.not_false, if_true, if_false, ite_true, ite_false, Bool.false_eq_true, true_and, and_true, truD, eq_self, Int.zero_add]
          exact hM2 _ _ ⟨ms, c, _, rfl, rfl, by omega⟩
      · rintro ρ a' ⟨ms, c, z, rfl, rfl, hl⟩
        rw [rngD_len] at hl
        have hl' : ms.length ≤ 60 * i + 60 := hl
        exact hM' _ _ ⟨ms, _, _, _, rfl, rfl, by omega⟩
  · rintro ρ a' ⟨ms, x, y, z, rfl, rfl, hl⟩
    subst hM
    simp only [e_ret]
    rw [e_frz (k := a.length) rfl (gl _), dI_len]
    refine ⟨fits_small (by rw [rngD_len] at hl; split at hl <;> omega), ?_⟩
    rw [gs]
    exact Ret.pre (d := .lst (dI ms)) bd_dI (q ms)
theorem rd__law_at {ds : List D} {a : A} {Q : DQ} {E : Exq} (h : S__law_at ds a Q E) : t__law_at { nx := fun _ a' => Ret a Q .non a', rt := Ret a Q } (startD ["draws", "index"] ds) a := by
  obtain ⟨ms, i, rfl, h0, q⟩ := h
  show t__law_at _ [some (.lst (dI ms)), some (.int i)] a
  unfold t__law_at
  refine seqG fun M hM => ?_
  simp only [e_var, e_C, e_op, e_un, e_test, e_tru, e_and, e_or, e_not, e_andV, e_orV, e_notV, e_if, e_nil, e_cons, e_lst, e_lstM, e_tup, e_N, e_R1, e_R2, e_call, e_meth, e_make, e_fld, e_bm, e_noPart, e_part, e_sl, e_yes, e_lc, e_seqI, e_goL, e_goScr, e_rng1, e_rng2, e_next, e_seq, e_set, e_asg, e_exp, e_ret, e_retN, e_sif, e_brk, e_cnt, e_sub, e_augsub, e_aug, e_sfld, e_augfld, e_for, e_chain, e_add, e_addI, e_addL, e_addT, e_addS, e_subI, e_mul, e_mulI, e_fdiv, e_mod, e_pow, e_shl, e_shr, e_band, e_bor, e_bxor, e_lt, e_le, e_gt, e_ge, e_neg, e_eqI, e_neI, e_eqS, e_neS, e_eqB, e_neB, e_eqNI, e_neNI, e_isNN, e_isIN, e_isSN, e_isBN, e_isTN, e_isLN, e_isON, e_isntNN, e_isntIN, e_isntSN, e_isntTN, e_isntLN, e_isntON, e_min2, e_max2, e_int1, e_int1b, e_lenL, e_lenT, e_lenKT, e_lenS, e_lenScr, e_listL, e_listT, e_outT, e_outF, e_slL, e_slT, e_ixL, e_ixT, e_ixKT, e_ixScr, e_isi1, e_isi2, e_tyN, e_tyB, e_tyI, e_tyS, e_tyL, e_tyT, e_tyKT, e_k_NoneType_int, e_k_NoneType_bool, e_k_NoneType_str, e_k_NoneType_list, e_k_NoneType_tuple, e_k_NoneType_dict, e_k_bool_int, e_k_bool_bool, e_k_bool_str, e_k_bool_list, e_k_bool_tuple, e_k_bool_dict, e_k_int_int, e_k_int_bool, e_k_int_str, e_k_int_list, e_k_int_tuple, e_k_int_dict, e_k_str_int, e_k_str_bool, e_k_str_str, e_k_str_list, e_k_str_tuple, e_k_str_dict, e_k_list_int, e_k_list_bool, e_k_list_str, e_k_list_list, e_k_list_tuple, e_k_list_dict, e_k_tuple_int, e_k_tuple_bool, e_k_tuple_str, e_k_tuple_list, e_k_tuple_tuple, e_k_tuple_dict, e_k_dict_int, e_k_dict_bool, e_k_dict_str, e_k_dict_list, e_k_dict_tuple, e_k_dict_dict, List.getElem?_cons_zero, List.getElem?_cons_succ, List.set_cons_zero, List.set_cons_succ, decide_true, decide_false, Bool.not_true, Bool.not_false, if_true, if_false, ite_true, ite_false, Bool.false_eq_true, true_and, and_true, truD, eq_self, Int.zero_add, dI_len]
  by_cases h1 : i < ms.length
  · obtain ⟨v, hv, _⟩ := atI_int h0 h1
    have hv' : L2.atI (dI ms) i = some (.int v) := hv
    simp only [h1, e_var, e_C, e_op, e_un, e_test, e_tru, e_and, e_or, e_not, e_andV, e_orV, e_notV, e_if, e_nil, e_cons, e_lst, e_lstM, e_tup, e_N, e_R1, e_R2, e_call, e_meth, e_make, e_fld, e_bm, e_noPart, e_part, e_sl, e_yes, e_lc, e_seqI, e_goL, e_goScr, e_rng1, e_rng2, e_next, e_seq, e_set, e_asg, e_exp, e_ret, e_retN, e_sif, e_brk, e_cnt, e_sub, e_augsub, e_aug, e_sfld, e_augfld, e_for, e_chain, e_add, e_addI, e_addL, e_addT, e_addS, e_subI, e_mul, e_mulI, e_fdiv, e_mod, e_pow, e_shl, e_shr, e_band, e_bor, e_bxor, e_lt, e_le, e_gt, e_ge, e_neg, e_eqI, e_neI, e_eqS, e_neS, e_eqB, e_neB, e_eqNI, e_neNI, e_isNN, e_isIN, e_isSN, e_isBN, e_isTN, e_isLN, e_isON, e_isntNN, e_isntIN, e_isntSN, e_isntTN, e_isntLN, e_isntON, e_min2, e_max2, e_int1, e_int1b, e_lenL, e_lenT, e_lenKT, e_lenS, e_lenScr, e_listL, e_listT, e_outT, e_outF, e_slL, e_slT, e_ixL, e_ixT, e_ixKT, e_ixScr, e_isi1, e_isi2, e_tyN, e_tyB, e_tyI, e_tyS, e_tyL, e_tyT, e_tyKT, e_k_NoneType_int, e_k_NoneType_bool, e_k_NoneType_str, e_k_NoneType_list, e_k_NoneType_tuple, e_k_NoneType_dict, e_k_bool_int, e_k_bool_bool, e_k_bool_str, e_k_bool_list, e_k_bool_tuple, e_k_bool_dict, e_k_int_int, e_k_int_bool, e_k_int_str, e_k_int_list, e_k_int_tuple, e_k_int_dict, e_k_str_int, e_k_str_bool, e_k_str_str, e_k_str_list, e_k_str_tuple, e_k_str_dict, e_k_list_int, e_k_list_bool, e_k_list_str, e_k_list_list, e_k_list_tuple, e_k_list_dict, e_k_tuple_int, e_k_tuple_bool, e_k_tuple_str, e_k_tuple_list, e_k_tuple_tuple, e_k_tuple_dict, e_k_dict_int, e_k_dict_bool, e_k_dict_str, e_k_dict_list, e_k_dict_tuple, e_k_dict_dict, List.getElem?_cons_zero, List.getElem?_cons_succ, List.set_cons_zero, List.set_cons_succ, decide_true, decide_false, Bool.not_true, Bool.not_false, if_true, if_false, ite_true, ite_false, Bool.false_eq_true, true_and, and_true, truD, eq_self, Int.zero_add, hv']
    exact .same True.intro (q v)
  · simp only [h1, e_var, e_C, e_op, e_un, e_test, e_tru, e_and, e_or, e_not, e_andV, e_orV, e_notV, e_if, e_nil, e_cons, e_lst, e_lstM, e_tup, e_N, e_R1, e_R2, e_call, e_meth, e_make, e_fld, e_bm, e_noPart, e_part, e_sl, e_yes, e_lc, e_seqI, e_goL, e_goScr, e_rng1, e_rng2, e_next, e_seq, e_set, e_asg, e_exp, e_ret, e_retN, e_sif, e_brk, e_cnt, e_sub, e_augsub, e_aug, e_sfld, e_augfld, e_for, e_chain, e_add, e_addI, e_addL, e_addT, e_addS, e_subI, e_mul, e_mulI, e_fdiv, e_mod, e_pow, e_shl, e_shr, e_band, e_bor, e_bxor, e_lt, e_le, e_gt, e_ge, e_neg, e_eqI, e_neI, e_eqS, e_neS, e_eqB, e_neB, e_eqNI, e_neNI, e_isNN, e_isIN, e_isSN, e_isBN, e_isTN, e_isLN, e_isON, e_isntNN, e_isntIN, e_isntSN, e_isntTN, e_isntLN, e_isntON, e_min2, e_max2, e_int1, e_int1b, e_lenL, e_lenT, e_lenKT, e_lenS, e_lenScr, e_listL, e_listT, e_outT, e_outF, e_slL, e_slT, e_ixL, e_ixT, e_ixKT, e_ixScr, e_isi1, e_isi2, e_tyN, e_tyB, e_tyI, e_tyS, e_tyL, e_tyT, e_tyKT, e_k_NoneType_int, e_k_NoneType_bool, e_k_NoneType_str, e_k_NoneType_list, e_k_NoneType_tuple, e_k_NoneType_dict, e_k_bool_int, e_k_bool_bool, e_k_bool_str, e_k_bool_list, e_k_bool_tuple, e_k_bool_dict, e_k_int_int, e_k_int_bool, e_k_int_str, e_k_int_list, e_k_int_tuple, e_k_int_dict, e_k_str_int, e_k_str_bool, e_k_str_str, e_k_str_list, e_k_str_tuple, e_k_str_dict, e_k_list_int, e_k_list_bool, e_k_list_str, e_k_list_list, e_k_list_tuple, e_k_list_dict, e_k_tuple_int, e_k_tuple_bool, e_k_tuple_str, e_k_tuple_list, e_k_tuple_tuple, e_k_tuple_dict, e_k_dict_int, e_k_dict_bool, e_k_dict_str, e_k_dict_list, e_k_dict_tuple, e_k_dict_dict, List.getElem?_cons_zero, List.getElem?_cons_succ, List.set_cons_zero, List.set_cons_succ, decide_true, decide_false, Bool.not_true, Bool.not_false, if_true, if_false, ite_true, ite_false, Bool.false_eq_true, true_and, and_true, truD, eq_self, Int.zero_add]
    subst hM
    refine seqG fun M hM => ?_
    simp only [e_var, e_C, e_op, e_un, e_test, e_tru, e_and, e_or, e_not, e_andV, e_orV, e_notV, e_if, e_nil, e_cons, e_lst, e_lstM, e_tup, e_N, e_R1, e_R2, e_call, e_meth, e_make, e_fld, e_bm, e_noPart, e_part, e_sl, e_yes, e_lc, e_seqI, e_goL, e_goScr, e_rng1, e_rng2, e_next, e_seq, e_set, e_asg, e_exp, e_ret, e_retN, e_sif, e_brk, e_cnt, e_sub, e_augsub, e_aug, e_sfld, e_augfld, e_for, e_chain, e_add, e_addI, e_addL, e_addT, e_addS, e_subI, e_mul, e_mulI, e_fdiv, e_mod, e_pow, e_shl, e_shr, e_band, e_bor, e_bxor, e_lt, e_le, e_gt, e_ge, e_neg, e_eqI, e_neI, e_eqS, e_neS, e_eqB, e_neB, e_eqNI, e_neNI, e_isNN, e_isIN, e_isSN, e_isBN, e_isTN, e_isLN, e_isON, e_isntNN, e_isntIN, e_isntSN, e_isntTN, e_isntLN, e_isntON, e_min2, e_max2, e_int1, e_int1b, e_lenL, e_lenT, e_lenKT, e_lenS, e_lenScr, e_listL, e_listT, e_outT, e_outF, e_slL, e_slT, e_ixL, e_ixT, e_ixKT, e_ixScr, e_isi1, e_isi2, e_tyN, e_tyB, e_tyI, e_tyS, e_tyL, e_tyT, e_tyKT, e_k_NoneType_int, e_k_NoneType_bool, e_k_NoneType_str, e_k_NoneType_list, e_k_NoneType_tuple, e_k_NoneType_dict, e_k_bool_int, e_k_bool_bool, e_k_bool_str, e_k_bool_list, e_k_bool_tuple, e_k_bool_dict, e_k_int_int, e_k_int_bool, e_k_int_str, e_k_int_list, e_k_int_tuple, e_k_int_dict, e_k_str_int, e_k_str_bool, e_k_str_str, e_k_str_list, e_k_str_tuple, e_k_str_dict, e_k_list_int, e_k_list_bool, e_k_list_str, e_k_list_list, e_k_list_tuple, e_k_list_dict, e_k_tuple_int, e_k_tuple_bool, e_k_tuple_str, e_k_tuple_list, e_k_tuple_tuple, e_k_tuple_dict, e_k_dict_int, e_k_dict_bool, e_k_dict_str, e_k_dict_list, e_k_dict_tuple, e_k_dict_dict, List.getElem?_cons_zero, List.getElem?_cons_succ, List.set_cons_zero, List.set_cons_succ, decide_true, decide_false, Bool.not_true, Bool.not_false, if_true, if_false, ite_true, ite_false, Bool.false_eq_true, true_and, and_true, truD, eq_self, Int.zero_add, dI_len]
    by_cases h2 : (ms.length : Int) = 0
    · simp only [h2, e_var, e_C, e_op, e_un, e_test, e_tru, e_and, e_or, e_not, e_andV, e_orV, e_notV, e_if, e_nil, e_cons, e_lst, e_lstM, e_tup, e_N, e_R1, e_R2, e_call, e_meth, e_make, e_fld, e_bm, e_noPart, e_part, e_sl, e_yes, e_lc, e_seqI, e_goL, e_goScr, e_rng1, e_rng2, e_next, e_seq, e_set, e_asg, e_exp, e_ret, e_retN, e_sif, e_brk, e_cnt, e_sub, e_augsub, e_aug, e_sfld, e_augfld, e_for, e_chain, e_add, e_addI, e_addL, e_addT, e_addS, e_subI, e_mul, e_mulI, e_fdiv, e_mod, e_pow, e_shl, e_shr, e_band, e_bor, e_bxor, e_lt, e_le, e_gt, e_ge, e_neg, e_eqI, e_neI, e_eqS, e_neS, e_eqB, e_neB, e_eqNI, e_neNI, e_isNN, e_isIN, e_isSN, e_isBN, e_isTN, e_isLN, e_isON, e_isntNN, e_isntIN, e_isntSN, e_isntTN, e_isntLN, e_isntON, e_min2, e_max2, e_int1, e_int1b, e_lenL, e_lenT, e_lenKT, e_lenS, e_lenScr, e_listL, e_listT, e_outT, e_outF, e_slL, e_slT, e_ixL, e_ixT, e_ixKT, e_ixScr, e_isi1, e_isi2, e_tyN, e_tyB, e_tyI, e_tyS, e_tyL, e_tyT, e_tyKT, e_k_NoneType_int, e_k_NoneType_bool, e_k_NoneType_str, e_k_NoneType_list, e_k_NoneType_tuple, e_k_NoneType_dict, e_k_bool_int, e_k_bool_bool, e_k_bool_str, e_k_bool_list, e_k_bool_tuple, e_k_bool_dict, e_k_int_int, e_k_int_bool, e_k_int_str, e_k_int_list, e_k_int_tuple, e_k_int_dict, e_k_str_int, e_k_str_bool, e_k_str_str, e_k_str_list, e_k_str_tuple, e_k_str_dict, e_k_list_int, e_k_list_bool, e_k_list_str, e_k_list_list, e_k_list_tuple, e_k_list_dict, e_k_tuple_int, e_k_tuple_bool, e_k_tuple_str, e_k_tuple_list, e_k_tuple_tuple, e_k_tuple_dict, e_k_dict_int, e_k_dict_bool, e_k_dict_str, e_k_dict_list, e_k_dict_tuple, e_k_dict_dict, List.getElem?_cons_zero, List.getElem?_cons_succ, List.set_cons_zero, List.set_cons_succ, decide_true, decide_false, Bool.not_true, Bool.not_false, if_true, if_false, ite_true, ite_false, Bool.false_eq_true, true_and, and_true, truD, eq_self, Int.zero_add]
      exact ⟨i, 77, rfl, fun v => .same True.intro (q v)⟩
    · simp only [h2, e_var, e_C, e_op, e_un, e_test, e_tru, e_and, e_or, e_not, e_andV, e_orV, e_notV, e_if, e_nil, e_cons, e_lst, e_lstM, e_tup, e_N, e_R1, e_R2, e_call, e_meth, e_make, e_fld, e_bm, e_noPart, e_part, e_sl, e_yes, e_lc, e_seqI, e_goL, e_goScr, e_rng1, e_rng2, e_next, e_seq, e_set, e_asg, e_exp, e_ret, e_retN, e_sif, e_brk, e_cnt, e_sub, e_augsub, e_aug, e_sfld, e_augfld, e_for, e_chain, e_add, e_addI, e_addL, e_addT, e_addS, e_subI, e_mul, e_mulI, e_fdiv, e_mod, e_pow, e_shl, e_shr, e_band, e_bor, e_bxor, e_lt, e_le, e_gt, e_ge, e_neg, e_eqI, e_neI, e_eqS, e_neS, e_eqB, e_neB, e_eqNI, e_neNI, e_isNN, e_isIN, e_isSN, e_isBN, e_isTN, e_isLN, e_isON, e_isntNN, e_isntIN, e_isntSN, e_isntTN, e_isntLN, e_isntON, e_min2, e_max2, e_int1, e_int1b, e_lenL, e_lenT, e_lenKT, e_lenS, e_lenScr, e_listL, e_listT, e_outT, e_outF, e_slL, e_slT, e_ixL, e_ixT, e_ixKT, e_ixScr, e_isi1, e_isi2, e_tyN, e_tyB, e_tyI, e_tyS, e_tyL, e_tyT, e_tyKT, e_k_NoneType_int, e_k_NoneType_bool, e_k_NoneType_str, e_k_NoneType_list, e_k_NoneType_tuple, e_k_NoneType_dict, e_k_bool_int, e_k_bool_bool, e_k_bool_str, e_k_bool_list, e_k_bool_tuple, e_k_bool_dict, e_k_int_int, e_k_int_bool, e_k_int_str, e_k_int_list, e_k_int_tuple, e_k_int_dict, e_k_str_int, e_k_str_bool, e_k_str_str, e_k_str_list, e_k_str_tuple, e_k_str_dict, e_k_list_int, e_k_list_bool, e_k_list_str, e_k_list_list, e_k_list_tuple, e_k_list_dict, e_k_tuple_int, e_k_tuple_bool, e_k_tuple_str, e_k_tuple_list, e_k_tuple_tuple, e_k_tuple_dict, e_k_dict_int, e_k_dict_bool, e_k_dict_str, e_k_dict_list, e_k_dict_tuple, e_k_dict_dict, List.getElem?_cons_zero, List.getElem?_cons_succ, List.set_cons_zero, List.set_cons_succ, decide_true, decide_false, Bool.not_true, Bool.not_false, if_true, if_false, ite_true, ite_false, Bool.false_eq_true, true_and, and_true, truD, eq_self, Int.zero_add]
      subst hM
      simp only [e_var, e_C, e_op, e_un, e_test, e_tru, e_and, e_or, e_not, e_andV, e_orV, e_notV, e_if, e_nil, e_cons, e_lst, e_lstM, e_tup, e_N, e_R1, e_R2, e_call, e_meth, e_make, e_fld, e_bm, e_noPart, e_part, e_sl, e_yes, e_lc, e_seqI, e_goL, e_goScr, e_rng1, e_rng2, e_next, e_seq, e_set, e_asg, e_exp, e_ret, e_retN, e_sif, e_brk, e_cnt, e_sub, e_augsub, e_aug, e_sfld, e_augfld, e_for, e_chain, e_add, e_addI, e_addL, e_addT, e_addS, e_subI, e_mul, e_mulI, e_fdiv, e_mod, e_pow, e_shl, e_shr, e_band, e_bor, e_bxor, e_lt, e_le, e_gt, e_ge, e_neg, e_eqI, e_neI, e_eqS, e_neS, e_eqB, e_neB, e_eqNI, e_neNI, e_isNN, e_isIN, e_isSN, e_isBN, e_isTN, e_isLN, e_isON, e_isntNN, e_isntIN, e_isntSN, e_isntTN, e_isntLN, e_isntON, e_min2, e_max2, e_int1, e_int1b, e_lenL, e_lenT, e_lenKT, e_lenS, e_lenScr, e_listL, e_listT, e_outT, e_outF, e_slL, e_slT, e_ixL, e_ixT, e_ixKT, e_ixScr, e_isi1, e_isi2, e_tyN, e_tyB, e_tyI, e_tyS, e_tyL, e_tyT, e_tyKT, e_k_NoneType_int, e_k_NoneType_bool, e_k_NoneType_str, e_k_NoneType_list, e_k_NoneType_tuple, e_k_NoneType_dict, e_k_bool_int, e_k_bool_bool, e_k_bool_str, e_k_bool_list, e_k_bool_tuple, e_k_bool_dict, e_k_int_int, e_k_int_bool, e_k_int_str, e_k_int_list, e_k_int_tuple, e_k_int_dict, e_k_str_int, e_k_str_bool, e_k_str_str, e_k_str_list, e_k_str_tuple, e_k_str_dict, e_k_list_int, e_k_list_bool, e_k_list_str, e_k_list_list, e_k_list_tuple, e_k_list_dict, e_k_tuple_int, e_k_tuple_bool, e_k_tuple_str, e_k_tuple_list, e_k_tuple_tuple, e_k_tuple_dict, e_k_dict_int, e_k_dict_bool, e_k_dict_str, e_k_dict_list, e_k_dict_tuple, e_k_dict_dict, List.getElem?_cons_zero, List.getElem?_cons_succ, List.set_cons_zero, List.set_cons_succ, decide_true, decide_false, Bool.not_true, Bool.not_false, if_true, if_false, ite_true, ite_false, Bool.false_eq_true, true_and, and_true, truD, eq_self, Int.zero_add, dI_len]
      have hp : (0 : Int) < ms.length := by omega
      obtain ⟨v, hv, _⟩ := atI_int (xs := ms) (i := i % ms.length) (Int.emod_nonneg _ h2) (Int.emod_lt_of_pos _ hp)
      have hv' : L2.atI (dI ms) (i % ms.length) = some (.int v) := hv
      refine ⟨hp, ?_⟩
      simp only [hv', e_var, e_C, e_op, e_un, e_test, e_tru, e_and, e_or, e_not, e_andV, e_orV, e_notV, e_if, e_nil, e_cons, e_lst, e_lstM, e_tup, e_N, e_R1, e_R2, e_call, e_meth, e_make, e_fld, e_bm, e_noPart, e_part, e_sl, e_yes, e_lc, e_seqI, e_goL, e_goScr, e_rng1, e_rng2, e_next, e_seq, e_set, e_asg, e_exp, e_ret, e_retN, e_sif, e_brk, e_cnt, e_sub, e_augsub, e_aug, e_sfld, e_augfld, e_for, e_chain, e_add, e_addI, e_addL, e_addT, e_addS, e_subI, e_mul, e_mulI, e_fdiv, e_mod, e_pow, e_shl, e_shr, e_band, e_bor, e_bxor, e_lt, e_le, e_gt, e_ge, e_neg, e_eqI, e_neI, e_eqS, e_neS, e_eqB, e_neB, e_eqNI, e_neNI, e_isNN, e_isIN, e_isSN, e_isBN, e_isTN, e_isLN, e_isON, e_isntNN, e_isntIN, e_isntSN, e_isntTN, e_isntLN, e_isntON, e_min2, e_max2, e_int1, e_int1b, e_lenL, e_lenT, e_lenKT, e_lenS, e_lenScr, e_listL, e_listT, e_outT, e_outF, e_slL, e_slT, e_ixL, e_ixT, e_ixKT, e_ixScr, e_isi1, e_isi2, e_tyN, e_tyB, e_tyI, e_tyS, e_tyL, e_tyT, e_tyKT, e_k_NoneType_int, e_k_NoneType_bool, e_k_NoneType_str, e_k_NoneType_list, e_k_NoneType_tuple, e_k_NoneType_dict, e_k_bool_int, e_k_bool_bool, e_k_bool_str, e_k_bool_list, e_k_bool_tuple, e_k_bool_dict, e_k_int_int, e_k_int_bool, e_k_int_str, e_k_int_list, e_k_int_tuple, e_k_int_dict, e_k_str_int, e_k_str_bool, e_k_str_str, e_k_str_list, e_k_str_tuple, e_k_str_dict, e_k_list_int, e_k_list_bool, e_k_list_str, e_k_list_list, e_k_list_tuple, e_k_list_dict, e_k_tuple_int, e_k_tuple_bool, e_k_tuple_str, e_k_tuple_list, e_k_tuple_tuple, e_k_tuple_dict, e_k_dict_int, e_k_dict_bool, e_k_dict_str, e_k_dict_list, e_k_dict_tuple, e_k_dict_dict, List.getElem?_cons_zero, List.getElem?_cons_succ, List.set_cons_zero, List.set_cons_succ, decide_true, decide_false, Bool.not_true, Bool.not_false, if_true, if_false, ite_true, ite_false, Bool.false_eq_true, true_and, and_true, truD, eq_self, Int.zero_add]
      exact ⟨cmulR (by decide), _, _, rfl, fun v => .same True.intro (q v)⟩
theorem rd__law_is_integer {ds : List D} {a : A} {Q : DQ} {E : Exq} (h : S__law_is_integer ds a Q E) : t__law_is_integer { nx := fun _ a' => Ret a Q .non a', rt := Ret a Q } (startD ["actual"] ds) a := by
  obtain ⟨i, rfl, q⟩ := h
  show t__law_is_integer _ [some (.int i)] a
  unfold t__law_is_integer
  simp only [e_var, e_C, e_op, e_un, e_test, e_tru, e_and, e_or, e_not, e_andV, e_orV, e_notV, e_if, e_nil, e_cons, e_lst, e_lstM, e_tup, e_N, e_R1, e_R2, e_call, e_meth, e_make, e_fld, e_bm, e_noPart, e_part, e_sl, e_yes, e_lc, e_seqI, e_goL, e_goScr, e_rng1, e_rng2, e_next, e_seq, e_set, e_asg, e_exp, e_ret, e_retN, e_sif, e_brk, e_cnt, e_sub, e_augsub, e_aug, e_sfld, e_augfld, e_for, e_chain, e_add, e_addI, e_addL, e_addT, e_addS, e_subI, e_mul, e_mulI, e_fdiv, e_mod, e_pow, e_shl, e_shr, e_band, e_bor, e_bxor, e_lt, e_le, e_gt, e_ge, e_neg, e_eqI, e_neI, e_eqS, e_neS, e_eqB, e_neB, e_eqNI, e_neNI, e_isNN, e_isIN, e_isSN, e_isBN, e_isTN, e_isLN, e_isON, e_isntNN, e_isntIN, e_isntSN, e_isntTN, e_isntLN, e_isntON, e_min2, e_max2, e_int1, e_int1b, e_lenL, e_lenT, e_lenKT, e_lenS, e_lenScr, e_listL, e_listT, e_outT, e_outF, e_slL, e_slT, e_ixL, e_ixT, e_ixKT, e_ixScr, e_isi1, e_isi2, e_tyN, e_tyB, e_tyI, e_tyS, e_tyL, e_tyT, e_tyKT, e_k_NoneType_int, e_k_NoneType_bool, e_k_NoneType_str, e_k_NoneType_list, e_k_NoneType_tuple, e_k_NoneType_dict, e_k_bool_int, e_k_bool_bool, e_k_bool_str, e_k_bool_list, e_k_bool_tuple, e_k_bool_dict, e_k_int_int, e_k_int_bool, e_k_int_str, e_k_int_list, e_k_int_tuple, e_k_int_dict, e_k_str_int, e_k_str_bool, e_k_str_str, e_k_str_list, e_k_str_tuple, e_k_str_dict, e_k_list_int, e_k_list_bool, e_k_list_str, e_k_list_list, e_k_list_tuple, e_k_list_dict, e_k_tuple_int, e_k_tuple_bool, e_k_tuple_str, e_k_tuple_list, e_k_tuple_tuple, e_k_tuple_dict, e_k_dict_int, e_k_dict_bool, e_k_dict_str, e_k_dict_list, e_k_dict_tuple, e_k_dict_dict, List.getElem?_cons_zero, List.getElem?_cons_succ, List.set_cons_zero, List.set_cons_succ, decide_true, decide_false, Bool.not_true, Bool.not_false, if_true, if_false, ite_true, ite_false, Bool.false_eq_true, true_and, and_true, truD, eq_self, Int.zero_add]
  exact .same True.intro q
theorem rd__law_same {n : Nat} {ds : List D} {a : A} {Q : DQ} {E : Exq} (h : S__law_same (n + 1) ds a Q E) : t__law_same n { nx := fun _ a' => Ret a Q .non a', rt := Ret a Q } (startD ["actual", "expected", "k"] ds) a := by
  rcases h with ⟨i, rfl, q⟩ | ⟨hn, d, xs, rfl, hd, hz, q⟩
  · show t__law_same n _ [some (.int i), some (.int i), none] a
    unfold t__law_same
    refine seqG fun M hM => ?_
    simp only [e_var, e_C, e_op, e_un, e_test, e_tru, e_and, e_or, e_not, e_andV, e_orV, e_notV, e_if, e_nil, e_cons, e_lst, e_lstM, e_tup, e_N, e_R1, e_R2, e_call, e_meth, e_make, e_fld, e_bm, e_noPart, e_part, e_sl, e_yes, e_lc, e_seqI, e_goL, e_goScr, e_rng1, e_rng2, e_next, e_seq, e_set, e_asg, e_exp, e_ret, e_retN, e_sif, e_brk, e_cnt, e_sub, e_augsub, e_aug, e_sfld, e_augfld, e_for, e_chain, e_add, e_addI, e_addL, e_addT, e_addS, e_subI, e_mul, e_mulI, e_fdiv, e_mod, e_pow, e_shl, e_shr, e_band, e_bor, e_bxor, e_lt, e_le, e_gt, e_ge, e_neg, e_eqI, e_neI, e_eqS, e_neS, e_eqB, e_neB, e_eqNI, e_neNI, e_isNN, e_isIN, e_isSN, e_isBN, e_isTN, e_isLN, e_isON, e_isntNN, e_isntIN, e_isntSN, e_isntTN, e_isntLN, e_isntON, e_min2, e_max2, e_int1, e_int1b, e_lenL, e_lenT, e_lenKT, e_lenS, e_lenScr, e_listL, e_listT, e_outT, e_outF, e_slL, e_slT, e_ixL, e_ixT, e_ixKT, e_ixScr, e_isi1, e_isi2, e_tyN, e_tyB, e_tyI, e_tyS, e_tyL, e_tyT, e_tyKT, e_k_NoneType_int, e_k_NoneType_bool, e_k_NoneType_str, e_k_NoneType_list, e_k_NoneType_tuple, e_k_NoneType_dict, e_k_bool_int, e_k_bool_bool, e_k_bool_str, e_k_bool_list, e_k_bool_tuple, e_k_bool_dict, e_k_int_int, e_k_int_bool, e_k_int_str, e_k_int_list, e_k_int_tuple, e_k_int_dict, e_k_str_int, e_k_str_bool, e_k_str_str, e_k_str_list, e_k_str_tuple, e_k_str_dict, e_k_list_int, e_k_list_bool, e_k_list_str, e_k_list_list, e_k_list_tuple, e_k_list_dict, e_k_tuple_int, e_k_tuple_bool, e_k_tuple_str, e_k_tuple_list, e_k_tuple_tuple, e_k_tuple_dict, e_k_dict_int, e_k_dict_bool, e_k_dict_str, e_k_dict_list, e_k_dict_tuple, e_k_dict_dict, List.getElem?_cons_zero, List.getElem?_cons_succ, List.set_cons_zero, List.set_cons_succ, decide_true, decide_false, Bool.not_true, Bool.not_false, if_true, if_false, ite_true, ite_false, Bool.false_eq_true, true_and, and_true, truD, eq_self, Int.zero_add, Bool.or_false]
    refine ⟨fits_small (by simp), ?_⟩
    subst hM
    refine seqG fun M hM => ?_
    simp only [e_var, e_C, e_op, e_un, e_test, e_tru, e_and, e_or, e_not, e_andV, e_orV, e_notV, e_if, e_nil, e_cons, e_lst, e_lstM, e_tup, e_N, e_R1, e_R2, e_call, e_meth, e_make, e_fld, e_bm, e_noPart, e_part, e_sl, e_yes, e_lc, e_seqI, e_goL, e_goScr, e_rng1, e_rng2, e_next, e_seq, e_set, e_asg, e_exp, e_ret, e_retN, e_sif, e_brk, e_cnt, e_sub, e_augsub, e_aug, e_sfld, e_augfld, e_for, e_chain, e_add, e_addI, e_addL, e_addT, e_addS, e_subI, e_mul, e_mulI, e_fdiv, e_mod, e_pow, e_shl, e_shr, e_band, e_bor, e_bxor, e_lt, e_le, e_gt, e_ge, e_neg, e_eqI, e_neI, e_eqS, e_neS, e_eqB, e_neB, e_eqNI, e_neNI, e_isNN, e_isIN, e_isSN, e_isBN, e_isTN, e_isLN, e_isON, e_isntNN, e_isntIN, e_isntSN, e_isntTN, e_isntLN, e_isntON, e_min2, e_max2, e_int1, e_int1b, e_lenL, e_lenT, e_lenKT, e_lenS, e_lenScr, e_listL, e_listT, e_outT, e_outF, e_slL, e_slT, e_ixL, e_ixT, e_ixKT, e_ixScr, e_isi1, e_isi2, e_tyN, e_tyB, e_tyI, e_tyS, e_tyL, e_tyT, e_tyKT, e_k_NoneType_int, e_k_NoneType_bool, e_k_NoneType_str, e_k_NoneType_list, e_k_NoneType_tuple, e_k_NoneType_dict, e_k_bool_int, e_k_bool_bool, e_k_bool_str, e_k_bool_list, e_k_bool_tuple, e_k_bool_dict, e_k_int_int, e_k_int_bool, e_k_int_str, e_k_int_list, e_k_int_tuple, e_k_int_dict, e_k_str_int, e_k_str_bool, e_k_str_str, e_k_str_list, e_k_str_tuple, e_k_str_dict, e_k_list_int, e_k_list_bool, e_k_list_str, e_k_list_list, e_k_list_tuple, e_k_list_dict, e_k_tuple_int, e_k_tuple_bool, e_k_tuple_str, e_k_tuple_list, e_k_tuple_tuple, e_k_tuple_dict, e_k_dict_int, e_k_dict_bool, e_k_dict_str, e_k_dict_list, e_k_dict_tuple, e_k_dict_dict, List.getElem?_cons_zero, List.getElem?_cons_succ, List.set_cons_zero, List.set_cons_succ, decide_true, decide_false, Bool.not_true, Bool.not_false, if_true, if_false, ite_true, ite_false, Bool.false_eq_true, true_and, and_true, truD, eq_self, Int.zero_add]
    subst hM
    refine seqG fun M hM => ?_
    simp only [e_var, e_C, e_op, e_un, e_test, e_tru, e_and, e_or, e_not, e_andV, e_orV, e_notV, e_if, e_nil, e_cons, e_lst, e_lstM, e_tup, e_N, e_R1, e_R2, e_call, e_meth, e_make, e_fld, e_bm, e_noPart, e_part, e_sl, e_yes, e_lc, e_seqI, e_goL, e_goScr, e_rng1, e_rng2, e_next, e_seq, e_set, e_asg, e_exp, e_ret, e_retN, e_sif, e_brk, e_cnt, e_sub, e_augsub, e_aug, e_sfld, e_augfld, e_for, e_chain, e_add, e_addI, e_addL, e_addT, e_addS, e_subI, e_mul, e_mulI, e_fdiv, e_mod, e_pow, e_shl, e_shr, e_band, e_bor, e_bxor, e_lt, e_le, e_gt, e_ge, e_neg, e_eqI, e_neI, e_eqS, e_neS, e_eqB, e_neB, e_eqNI, e_neNI, e_isNN, e_isIN, e_isSN, e_isBN, e_isTN, e_isLN, e_isON, e_isntNN, e_isntIN, e_isntSN, e_isntTN, e_isntLN, e_isntON, e_min2, e_max2, e_int1, e_int1b, e_lenL, e_lenT, e_lenKT, e_lenS, e_lenScr, e_listL, e_listT, e_outT, e_outF, e_slL, e_slT, e_ixL, e_ixT, e_ixKT, e_ixScr, e_isi1, e_isi2, e_tyN, e_tyB, e_tyI, e_tyS, e_tyL, e_tyT, e_tyKT, e_k_NoneType_int, e_k_NoneType_bool, e_k_NoneType_str, e_k_NoneType_list, e_k_NoneType_tuple, e_k_NoneType_dict, e_k_bool_int, e_k_bool_bool, e_k_bool_str, e_k_bool_list, e_k_bool_tuple, e_k_bool_dict, e_k_int_int, e_k_int_bool, e_k_int_str, e_k_int_list, e_k_int_tuple, e_k_int_dict, e_k_str_int, e_k_str_bool, e_k_str_str, e_k_str_list, e_k_str_tuple, e_k_str_dict, e_k_list_int, e_k_list_bool, e_k_list_str, e_k_list_list, e_k_list_tuple, e_k_list_dict, e_k_tuple_int, e_k_tuple_bool, e_k_tuple_str, e_k_tuple_list, e_k_tuple_tuple, e_k_tuple_dict, e_k_dict_int, e_k_dict_bool, e_k_dict_str, e_k_dict_list, e_k_dict_tuple, e_k_dict_dict, List.getElem?_cons_zero, List.getElem?_cons_succ, List.set_cons_zero, List.set_cons_succ, decide_true, decide_false, Bool.not_true, Bool.not_false, if_true, if_false, ite_true, ite_false, Bool.false_eq_true, true_and, and_true, truD, eq_self, Int.zero_add]
    subst hM
    refine seqG fun M hM => ?_
    simp only [e_var, e_C, e_op, e_un, e_test, e_tru, e_and, e_or, e_not, e_andV, e_orV, e_notV, e_if, e_nil, e_cons, e_lst, e_lstM, e_tup, e_N, e_R1, e_R2, e_call, e_meth, e_make, e_fld, e_bm, e_noPart, e_part, e_sl, e_yes, e_lc, e_seqI, e_goL, e_goScr, e_rng1, e_rng2, e_next, e_seq, e_set, e_asg, e_exp, e_ret, e_retN, e_sif, e_brk, e_cnt, e_sub, e_augsub, e_aug, e_sfld, e_augfld, e_for, e_chain, e_add, e_addI, e_addL, e_addT, e_addS, e_subI, e_mul, e_mulI, e_fdiv, e_mod, e_pow, e_shl, e_shr, e_band, e_bor, e_bxor, e_lt, e_le, e_gt, e_ge, e_neg, e_eqI, e_neI, e_eqS, e_neS, e_eqB, e_neB, e_eqNI, e_neNI, e_isNN, e_isIN, e_isSN, e_isBN, e_isTN, e_isLN, e_isON, e_isntNN, e_isntIN, e_isntSN, e_isntTN, e_isntLN, e_isntON, e_min2, e_max2, e_int1, e_int1b, e_lenL, e_lenT, e_lenKT, e_lenS, e_lenScr, e_listL, e_listT, e_outT, e_outF, e_slL, e_slT, e_ixL, e_ixT, e_ixKT, e_ixScr, e_isi1, e_isi2, e_tyN, e_tyB, e_tyI, e_tyS, e_tyL, e_tyT, e_tyKT, e_k_NoneType_int, e_k_NoneType_bool, e_k_NoneType_str, e_k_NoneType_list, e_k_NoneType_tuple, e_k_NoneType_dict, e_k_bool_int, e_k_bool_bool, e_k_bool_str, e_k_bool_list, e_k_bool_tuple, e_k_bool_dict, e_k_int_int, e_k_int_bool, e_k_int_str, e_k_int_list, e_k_int_tuple, e_k_int_dict, e_k_str_int, e_k_str_bool, e_k_str_str, e_k_str_list, e_k_str_tuple, e_k_str_dict, e_k_list_int, e_k_list_bool, e_k_list_str, e_k_list_list, e_k_list_tuple, e_k_list_dict, e_k_tuple_int, e_k_tuple_bool, e_k_tuple_str, e_k_tuple_list, e_k_tuple_tuple, e_k_tuple_dict, e_k_dict_int, e_k_dict_bool, e_k_dict_str, e_k_dict_list, e_k_dict_tuple, e_k_dict_dict, List.getElem?_cons_zero, List.getElem?_cons_succ, List.set_cons_zero, List.set_cons_succ, decide_true, decide_false, Bool.not_true, Bool.not_false, if_true, if_false, ite_true, ite_false, Bool.false_eq_true, true_and, and_true, truD, eq_self, Int.zero_add]
    exact ⟨i, rfl, .same True.intro q⟩
  · have ht := tyV hd
    show t__law_same n _ [some d, some (.lst (dI xs)), none] a
    unfold t__law_same
    refine seqG fun M hM => ?_
    refine ifG fun T F hT hF => ?_
    simp only [e_var, e_C, e_op, e_un, e_test, e_tru, e_and, e_or, e_not, e_andV, e_orV, e_notV, e_if, e_nil, e_cons, e_lst, e_lstM, e_tup, e_N, e_R1, e_R2, e_call, e_meth, e_make, e_fld, e_bm, e_noPart, e_part, e_sl, e_yes, e_lc, e_seqI, e_goL, e_goScr, e_rng1, e_rng2, e_next, e_seq, e_set, e_asg, e_exp, e_ret, e_retN, e_sif, e_brk, e_cnt, e_sub, e_augsub, e_aug, e_sfld, e_augfld, e_for, e_chain, e_add, e_addI, e_addL, e_addT, e_addS, e_subI, e_mul, e_mulI, e_fdiv, e_mod, e_pow, e_shl, e_shr, e_band, e_bor, e_bxor, e_lt, e_le, e_gt, e_ge, e_neg, e_eqI, e_neI, e_eqS, e_neS, e_eqB, e_neB, e_eqNI, e_neNI, e_isNN, e_isIN, e_isSN, e_isBN, e_isTN, e_isLN, e_isON, e_isntNN, e_isntIN, e_isntSN, e_isntTN, e_isntLN, e_isntON, e_min2, e_max2, e_int1, e_int1b, e_lenL, e_lenT, e_lenKT, e_lenS, e_lenScr, e_listL, e_listT, e_outT, e_outF, e_slL, e_slT, e_ixL, e_ixT, e_ixKT, e_ixScr, e_isi1, e_isi2, e_tyN, e_tyB, e_tyI, e_tyS, e_tyL, e_tyT, e_tyKT, e_k_NoneType_int, e_k_NoneType_bool, e_k_NoneType_str, e_k_NoneType_list, e_k_NoneType_tuple, e_k_NoneType_dict, e_k_bool_int, e_k_bool_bool, e_k_bool_str, e_k_bool_list, e_k_bool_tuple, e_k_bool_dict, e_k_int_int, e_k_int_bool, e_k_int_str, e_k_int_list, e_k_int_tuple, e_k_int_dict, e_k_str_int, e_k_str_bool, e_k_str_str, e_k_str_list, e_k_str_tuple, e_k_str_dict, e_k_list_int, e_k_list_bool, e_k_list_str, e_k_list_list, e_k_list_tuple, e_k_list_dict, e_k_tuple_int, e_k_tuple_bool, e_k_tuple_str, e_k_tuple_list, e_k_tuple_tuple, e_k_tuple_dict, e_k_dict_int, e_k_dict_bool, e_k_dict_str, e_k_dict_list, e_k_dict_tuple, e_k_dict_dict, List.getElem?_cons_zero, List.getElem?_cons_succ, List.set_cons_zero, List.set_cons_succ, decide_true, decide_false, Bool.not_true, Bool.not_false, if_true, if_false, ite_true, ite_false, Bool.false_eq_true, true_and, and_true, truD, eq_self, Int.zero_add, Bool.or_false]
    refine ⟨fits_small (by simp), ?_⟩
    subst hT
    refine seqG fun M1 hM1 => ?_
    simp only [e_var, e_C, e_op, e_un, e_test, e_tru, e_and, e_or, e_not, e_andV, e_orV, e_notV, e_if, e_nil, e_cons, e_lst, e_lstM, e_tup, e_N, e_R1, e_R2, e_call, e_meth, e_make, e_fld, e_bm, e_noPart, e_part, e_sl, e_yes, e_lc, e_seqI, e_goL, e_goScr, e_rng1, e_rng2, e_next, e_seq, e_set, e_asg, e_exp, e_ret, e_retN, e_sif, e_brk, e_cnt, e_sub, e_augsub, e_aug, e_sfld, e_augfld, e_for, e_chain, e_add, e_addI, e_addL, e_addT, e_addS, e_subI, e_mul, e_mulI, e_fdiv, e_mod, e_pow, e_shl, e_shr, e_band, e_bor, e_bxor, e_lt, e_le, e_gt, e_ge, e_neg, e_eqI, e_neI, e_eqS, e_neS, e_eqB, e_neB, e_eqNI, e_neNI, e_isNN, e_isIN, e_isSN, e_isBN, e_isTN, e_isLN, e_isON, e_isntNN, e_isntIN, e_isntSN, e_isntTN, e_isntLN, e_isntON, e_min2, e_max2, e_int1, e_int1b, e_lenL, e_lenT, e_lenKT, e_lenS, e_lenScr, e_listL, e_listT, e_outT, e_outF, e_slL, e_slT, e_ixL, e_ixT, e_ixKT, e_ixScr, e_isi1, e_isi2, e_tyN, e_tyB, e_tyI, e_tyS, e_tyL, e_tyT, e_tyKT, e_k_NoneType_int, e_k_NoneType_bool, e_k_NoneType_str, e_k_NoneType_list, e_k_NoneType_tuple, e_k_NoneType_dict, e_k_bool_int, e_k_bool_bool, e_k_bool_str, e_k_bool_list, e_k_bool_tuple, e_k_bool_dict, e_k_int_int, e_k_int_bool, e_k_int_str, e_k_int_list, e_k_int_tuple, e_k_int_dict, e_k_str_int, e_k_str_bool, e_k_str_str, e_k_str_list, e_k_str_tuple, e_k_str_dict, e_k_list_int, e_k_list_bool, e_k_list_str, e_k_list_list, e_k_list_tuple, e_k_list_dict, e_k_tuple_int, e_k_tuple_bool, e_k_tuple_str, e_k_tuple_list, e_k_tuple_tuple, e_k_tuple_dict, e_k_dict_int, e_k_dict_bool, e_k_dict_str, e_k_dict_list, e_k_dict_tuple, e_k_dict_dict, List.getElem?_cons_zero, List.getElem?_cons_succ, List.set_cons_zero, List.set_cons_succ, decide_true, decide_false, Bool.not_true, Bool.not_false, if_true, if_false, ite_true, ite_false, Bool.false_eq_true, true_and, and_true, truD, eq_self, Int.zero_add, ht, beq_self_eq_true]
    subst hM1
    refine seqG fun M1 hM1 => ?_
    simp only [e_var, e_C, e_op, e_un, e_test, e_tru, e_and, e_or, e_not, e_andV, e_orV, e_notV, e_if, e_nil, e_cons, e_lst, e_lstM, e_tup, e_N, e_R1, e_R2, e_call, e_meth, e_make, e_fld, e_bm, e_noPart, e_part, e_sl, e_yes, e_lc, e_seqI, e_goL, e_goScr, e_rng1, e_rng2, e_next, e_seq, e_set, e_asg, e_exp, e_ret, e_retN, e_sif, e_brk, e_cnt, e_sub, e_augsub, e_aug, e_sfld, e_augfld, e_for, e_chain, e_add, e_addI, e_addL, e_addT, e_addS, e_subI, e_mul, e_mulI, e_fdiv, e_mod, e_pow, e_shl, e_shr, e_band, e_bor, e_bxor, e_lt, e_le, e_gt, e_ge, e_neg, e_eqI, e_neI, e_eqS, e_neS, e_eqB, e_neB, e_eqNI, e_neNI, e_isNN, e_isIN, e_isSN, e_isBN, e_isTN, e_isLN, e_isON, e_isntNN, e_isntIN, e_isntSN, e_isntTN, e_isntLN, e_isntON, e_min2, e_max2, e_int1, e_int1b, e_lenL, e_lenT, e_lenKT, e_lenS, e_lenScr, e_listL, e_listT, e_outT, e_outF, e_slL, e_slT, e_ixL, e_ixT, e_ixKT, e_ixScr, e_isi1, e_isi2, e_tyN, e_tyB, e_tyI, e_tyS, e_tyL, e_tyT, e_tyKT, e_k_NoneType_int, e_k_NoneType_bool, e_k_NoneType_str, e_k_NoneType_list, e_k_NoneType_tuple, e_k_NoneType_dict, e_k_bool_int, e_k_bool_bool, e_k_bool_str, e_k_bool_list, e_k_bool_tuple, e_k_bool_dict, e_k_int_int, e_k_int_bool, e_k_int_str, e_k_int_list, e_k_int_tuple, e_k_int_dict, e_k_str_int, e_k_str_bool, e_k_str_str, e_k_str_list, e_k_str_tuple, e_k_str_dict, e_k_list_int, e_k_list_bool, e_k_list_str, e_k_list_list, e_k_list_tuple, e_k_list_dict, e_k_tuple_int, e_k_tuple_bool, e_k_tuple_str, e_k_tuple_list, e_k_tuple_tuple, e_k_tuple_dict, e_k_dict_int, e_k_dict_bool, e_k_dict_str, e_k_dict_list, e_k_dict_tuple, e_k_dict_dict, List.getElem?_cons_zero, List.getElem?_cons_succ, List.set_cons_zero, List.set_cons_succ, decide_true, decide_false, Bool.not_true, Bool.not_false, if_true, if_false, ite_true, ite_false, Bool.false_eq_true, true_and, and_true, truD, eq_self, Int.zero_add, e_lenV hd, dI_len]
    subst hM1
    refine seqG fun M1 hM1 => ?_
    simp only [e_var, e_C, e_op, e_un, e_test, e_tru, e_and, e_or, e_not, e_andV, e_orV, e_notV, e_if, e_nil, e_cons, e_lst, e_lstM, e_tup, e_N, e_R1, e_R2, e_call, e_meth, e_make, e_fld, e_bm, e_noPart, e_part, e_sl, e_yes, e_lc, e_seqI, e_goL, e_goScr, e_rng1, e_rng2, e_next, e_seq, e_set, e_asg, e_exp, e_ret, e_retN, e_sif, e_brk, e_cnt, e_sub, e_augsub, e_aug, e_sfld, e_augfld, e_for, e_chain, e_add, e_addI, e_addL, e_addT, e_addS, e_subI, e_mul, e_mulI, e_fdiv, e_mod, e_pow, e_shl, e_shr, e_band, e_bor, e_bxor, e_lt, e_le, e_gt, e_ge, e_neg, e_eqI, e_neI, e_eqS, e_neS, e_eqB, e_neB, e_eqNI, e_neNI, e_isNN, e_isIN, e_isSN, e_isBN, e_isTN, e_isLN, e_isON, e_isntNN, e_isntIN, e_isntSN, e_isntTN, e_isntLN, e_isntON, e_min2, e_max2, e_int1, e_int1b, e_lenL, e_lenT, e_lenKT, e_lenS, e_lenScr, e_listL, e_listT, e_outT, e_outF, e_slL, e_slT, e_ixL, e_ixT, e_ixKT, e_ixScr, e_isi1, e_isi2, e_tyN, e_tyB, e_tyI, e_tyS, e_tyL, e_tyT, e_tyKT, e_k_NoneType_int, e_k_NoneType_bool, e_k_NoneType_str, e_k_NoneType_list, e_k_NoneType_tuple, e_k_NoneType_dict, e_k_bool_int, e_k_bool_bool, e_k_bool_str, e_k_bool_list, e_k_bool_tuple, e_k_bool_dict, e_k_int_int, e_k_int_bool, e_k_int_str, e_k_int_list, e_k_int_tuple, e_k_int_dict, e_k_str_int, e_k_str_bool, e_k_str_str, e_k_str_list, e_k_str_tuple, e_k_str_dict, e_k_list_int, e_k_list_bool, e_k_list_str, e_k_list_list, e_k_list_tuple, e_k_list_dict, e_k_tuple_int, e_k_tuple_bool, e_k_tuple_str, e_k_tuple_list, e_k_tuple_tuple, e_k_tuple_dict, e_k_dict_int, e_k_dict_bool, e_k_dict_str, e_k_dict_list, e_k_dict_tuple, e_k_dict_dict, List.getElem?_cons_zero, List.getElem?_cons_succ, List.set_cons_zero, List.set_cons_succ, decide_true, decide_false, Bool.not_true, Bool.not_false, if_true, if_false, ite_true, ite_false, Bool.false_eq_true, true_and, and_true, truD, eq_self, Int.zero_add, e_lenV hd, dI_len]
    refine ⟨by omega, by omega, ?_⟩
    rw [Int.toNat_natCast]
    refine forW_inv (I := fun i ρ a' => a' = a ∧ ∃ x, ρ = [some d, some (.lst (dI xs)), x]) (fun _ _ _ _ => True.intro) ?_ ?_ ⟨rfl, _, rfl⟩
    · rintro i e ρ a' M2 he ⟨rfl, x, rfl⟩ hM2
      obtain ⟨rfl, hi⟩ := rngD_get he
      have hv : L2.atI (dI xs) (i : Int) = some (.int xs[i]) := atI_intN hi
      refine ⟨_, rfl, ?_⟩
      simp only [e_var, e_C, e_op, e_un, e_test, e_tru, e_and, e_or, e_not, e_andV, e_orV, e_notV, e_if, e_nil, e_cons, e_lst, e_lstM, e_tup, e_N, e_R1, e_R2, e_call, e_meth, e_make, e_fld, e_bm, e_noPart, e_part, e_sl, e_yes, e_lc, e_seqI, e_goL, e_goScr, e_rng1, e_rng2, e_next, e_seq, e_set, e_asg, e_exp, e_ret, e_retN, e_sif, e_brk, e_cnt, e_sub, e_augsub, e_aug, e_sfld, e_augfld, e_for, e_chain, e_add, e_addI, e_addL, e_addT, e_addS, e_subI, e_mul, e_mulI, e_fdiv, e_mod, e_pow, e_shl, e_shr, e_band, e_bor, e_bxor, e_lt, e_le, e_gt, e_ge, e_neg, e_eqI, e_neI, e_eqS, e_neS, e_eqB, e_neB, e_eqNI, e_neNI, e_isNN, e_isIN, e_isSN, e_isBN, e_isTN, e_isLN, e_isON, e_isntNN, e_isntIN, e_isntSN, e_isntTN, e_isntLN, e_isntON, e_min2, e_max2, e_int1, e_int1b, e_lenL, e_lenT, e_lenKT, e_lenS, e_lenScr, e_listL, e_listT, e_outT, e_outF, e_slL, e_slT, e_ixL, e_ixT, e_ixKT, e_ixScr, e_isi1, e_isi2, e_tyN, e_tyB, e_tyI, e_tyS, e_tyL, e_tyT, e_tyKT, e_k_NoneType_int, e_k_NoneType_bool, e_k_NoneType_str, e_k_NoneType_list, e_k_NoneType_tuple, e_k_NoneType_dict, e_k_bool_int, e_k_bool_bool, e_k_bool_str, e_k_bool_list, e_k_bool_tuple, e_k_bool_dict, e_k_int_int, e_k_int_bool, e_k_int_str, e_k_int_list, e_k_int_tuple, e_k_int_dict, e_k_str_int, e_k_str_bool, e_k_str_str, e_k_str_list, e_k_str_tuple, e_k_str_dict, e_k_list_int, e_k_list_bool, e_k_list_str, e_k_list_list, e_k_list_tuple, e_k_list_dict, e_k_tuple_int, e_k_tuple_bool, e_k_tuple_str, e_k_tuple_list, e_k_tuple_tuple, e_k_tuple_dict, e_k_dict_int, e_k_dict_bool, e_k_dict_str, e_k_dict_list, e_k_dict_tuple, e_k_dict_dict, List.getElem?_cons_zero, List.getElem?_cons_succ, List.set_cons_zero, List.set_cons_succ, decide_true, decide_false, Bool.not_true, Bool.not_false, if_true, if_false, ite_true, ite_false, Bool.false_eq_true, true_and, and_true, truD, eq_self, Int.zero_add, e_ixV hd, hv]
      obtain ⟨n', rfl⟩ : ∃ n', n = n' + 1 := ⟨n - 1, by omega⟩
      refine .inl ⟨_, rfl, ?_⟩
      simp only [e_var, e_C, e_op, e_un, e_test, e_tru, e_and, e_or, e_not, e_andV, e_orV, e_notV, e_if, e_nil, e_cons, e_lst, e_lstM, e_tup, e_N, e_R1, e_R2, e_call, e_meth, e_make, e_fld, e_bm, e_noPart, e_part, e_sl, e_yes, e_lc, e_seqI, e_goL, e_goScr, e_rng1, e_rng2, e_next, e_seq, e_set, e_asg, e_exp, e_ret, e_retN, e_sif, e_brk, e_cnt, e_sub, e_augsub, e_aug, e_sfld, e_augfld, e_for, e_chain, e_add, e_addI, e_addL, e_addT, e_addS, e_subI, e_mul, e_mulI, e_fdiv, e_mod, e_pow, e_shl, e_shr, e_band, e_bor, e_bxor, e_lt, e_le, e_gt, e_ge, e_neg, e_eqI, e_neI, e_eqS, e_neS, e_eqB, e_neB, e_eqNI, e_neNI, e_isNN, e_isIN, e_isSN, e_isBN, e_isTN, e_isLN, e_isON, e_isntNN, e_isntIN, e_isntSN, e_isntTN, e_isntLN, e_isntON, e_min2, e_max2, e_int1, e_int1b, e_lenL, e_lenT, e_lenKT, e_lenS, e_lenScr, e_listL, e_listT, e_outT, e_outF, e_slL, e_slT, e_ixL, e_ixT, e_ixKT, e_ixScr, e_isi1, e_isi2, e_tyN, e_tyB, e_tyI, e_tyS, e_tyL, e_tyT, e_tyKT, e_k_NoneType_int, e_k_NoneType_bool, e_k_NoneType_str, e_k_NoneType_list, e_k_NoneType_tuple, e_k_NoneType_dict, e_k_bool_int, e_k_bool_bool, e_k_bool_str, e_k_bool_list, e_k_bool_tuple, e_k_bool_dict, e_k_int_int, e_k_int_bool, e_k_int_str, e_k_int_list, e_k_int_tuple, e_k_int_dict, e_k_str_int, e_k_str_bool, e_k_str_str, e_k_str_list, e_k_str_tuple, e_k_str_dict, e_k_list_int, e_k_list_bool, e_k_list_str, e_k_list_list, e_k_list_tuple, e_k_list_dict, e_k_tuple_int, e_k_tuple_bool, e_k_tuple_str, e_k_tuple_list, e_k_tuple_tuple, e_k_tuple_dict, e_k_dict_int, e_k_dict_bool, e_k_dict_str, e_k_dict_list, e_k_dict_tuple, e_k_dict_dict, List.getElem?_cons_zero, List.getElem?_cons_succ, List.set_cons_zero, List.set_cons_succ, decide_true, decide_false, Bool.not_true, Bool.not_false, if_true, if_false, ite_true, ite_false, Bool.false_eq_true, true_and, and_true, truD, eq_self, Int.zero_add]
      exact hM2 _ _ ⟨rfl, _, rfl⟩
    · rintro ρ a' ⟨rfl, x, rfl⟩
      subst hM1
      simp only [e_var, e_C, e_op, e_un, e_test, e_tru, e_and, e_or, e_not, e_andV, e_orV, e_notV, e_if, e_nil, e_cons, e_lst, e_lstM, e_tup, e_N, e_R1, e_R2, e_call, e_meth, e_make, e_fld, e_bm, e_noPart, e_part, e_sl, e_yes, e_lc, e_seqI, e_goL, e_goScr, e_rng1, e_rng2, e_next, e_seq, e_set, e_asg, e_exp, e_ret, e_retN, e_sif, e_brk, e_cnt, e_sub, e_augsub, e_aug, e_sfld, e_augfld, e_for, e_chain, e_add, e_addI, e_addL, e_addT, e_addS, e_subI, e_mul, e_mulI, e_fdiv, e_mod, e_pow, e_shl, e_shr, e_band, e_bor, e_bxor, e_lt, e_le, e_gt, e_ge, e_neg, e_eqI, e_neI, e_eqS, e_neS, e_eqB, e_neB, e_eqNI, e_neNI, e_isNN, e_isIN, e_isSN, e_isBN, e_isTN, e_isLN, e_isON, e_isntNN, e_isntIN, e_isntSN, e_isntTN, e_isntLN, e_isntON, e_min2, e_max2, e_int1, e_int1b, e_lenL, e_lenT, e_lenKT, e_lenS, e_lenScr, e_listL, e_listT, e_outT, e_outF, e_slL, e_slT, e_ixL, e_ixT, e_ixKT, e_ixScr, e_isi1, e_isi2, e_tyN, e_tyB, e_tyI, e_tyS, e_tyL, e_tyT, e_tyKT, e_k_NoneType_int, e_k_NoneType_bool, e_k_NoneType_str, e_k_NoneType_list, e_k_NoneType_tuple, e_k_NoneType_dict, e_k_bool_int, e_k_bool_bool, e_k_bool_str, e_k_bool_list, e_k_bool_tuple, e_k_bool_dict, e_k_int_int, e_k_int_bool, e_k_int_str, e_k_int_list, e_k_int_tuple, e_k_int_dict, e_k_str_int, e_k_str_bool, e_k_str_str, e_k_str_list, e_k_str_tuple, e_k_str_dict, e_k_list_int, e_k_list_bool, e_k_list_str, e_k_list_list, e_k_list_tuple, e_k_list_dict, e_k_tuple_int, e_k_tuple_bool, e_k_tuple_str, e_k_tuple_list, e_k_tuple_tuple, e_k_tuple_dict, e_k_dict_int, e_k_dict_bool, e_k_dict_str, e_k_dict_list, e_k_dict_tuple, e_k_dict_dict, List.getElem?_cons_zero, List.getElem?_cons_succ, List.set_cons_zero, List.set_cons_succ, decide_true, decide_false, Bool.not_true, Bool.not_false, if_true, if_false, ite_true, ite_false, Bool.false_eq_true, true_and, and_true, truD, eq_self, Int.zero_add]
      exact .same True.intro q
theorem rd__law_next {ds : List D} {a : A} {Q : DQ} {E : Exq} (h : S__law_next ds a Q E) : t__law_next { nx := fun _ a' => Ret a Q .non a', rt := Ret a Q } (startD ["state", "limit"] ds) a := by
  obtain ⟨n, L, rfl, hS, hL, q⟩ := h
  obtain ⟨ms, i, hn, hi⟩ := hS
  have hlt : n < a.length := (List.getElem?_eq_some_iff.1 hn).1
  show t__law_next _ [some (.loc n), some (.int L)] a
  unfold t__law_next
  refine seqG fun M hM => ?_
  have g1 : L2.atI [D.lst (dI ms), .int i] 1 = some (.int i) := rfl
  simp only [e_var, e_C, e_op, e_un, e_test, e_tru, e_and, e_or, e_not, e_andV, e_orV, e_notV, e_if, e_nil, e_cons, e_lst, e_lstM, e_tup, e_N, e_R1, e_R2, e_call, e_meth, e_make, e_fld, e_bm, e_noPart, e_part, e_sl, e_yes, e_lc, e_seqI, e_goL, e_goScr, e_rng1, e_rng2, e_next, e_seq, e_set, e_asg, e_exp, e_ret, e_retN, e_sif, e_brk, e_cnt, e_sub, e_augsub, e_aug, e_sfld, e_augfld, e_for, e_chain, e_add, e_addI, e_addL, e_addT, e_addS, e_subI, e_mul, e_mulI, e_fdiv, e_mod, e_pow, e_shl, e_shr, e_band, e_bor, e_bxor, e_lt, e_le, e_gt, e_ge, e_neg, e_eqI, e_neI, e_eqS, e_neS, e_eqB, e_neB, e_eqNI, e_neNI, e_isNN, e_isIN, e_isSN, e_isBN, e_isTN, e_isLN, e_isON, e_isntNN, e_isntIN, e_isntSN, e_isntTN, e_isntLN, e_isntON, e_min2, e_max2, e_int1, e_int1b, e_lenL, e_lenT, e_lenKT, e_lenS, e_lenScr, e_listL, e_listT, e_outT, e_outF, e_slL, e_slT, e_ixL, e_ixT, e_ixKT, e_ixScr, e_isi1, e_isi2, e_tyN, e_tyB, e_tyI, e_tyS, e_tyL, e_tyT, e_tyKT, e_k_NoneType_int, e_k_NoneType_bool, e_k_NoneType_str, e_k_NoneType_list, e_k_NoneType_tuple, e_k_NoneType_dict, e_k_bool_int, e_k_bool_bool, e_k_bool_str, e_k_bool_list, e_k_bool_tuple, e_k_bool_dict, e_k_int_int, e_k_int_bool, e_k_int_str, e_k_int_list, e_k_int_tuple, e_k_int_dict, e_k_str_int, e_k_str_bool, e_k_str_str, e_k_str_list, e_k_str_tuple, e_k_str_dict, e_k_list_int, e_k_list_bool, e_k_list_str, e_k_list_list, e_k_list_tuple, e_k_list_dict, e_k_tuple_int, e_k_tuple_bool, e_k_tuple_str, e_k_tuple_list, e_k_tuple_tuple, e_k_tuple_dict, e_k_dict_int, e_k_dict_bool, e_k_dict_str, e_k_dict_list, e_k_dict_tuple, e_k_dict_dict, List.getElem?_cons_zero, List.getElem?_cons_succ, List.set_cons_zero, List.set_cons_succ, decide_true, decide_false, Bool.not_true, Bool.not_false, if_true, if_false, ite_true, ite_false, Bool.false_eq_true, true_and, and_true, truD, eq_self, Int.zero_add, e_getO hn, g1, e_setSub hn (x := 1) (k := 1) rfl]
  subst hM
  have hn2 : (a.set n (.lst [.lst (dI ms), .int (i + 1)]))[n]? = some (.lst [.lst (dI ms), .int (i + 1)]) := List.getElem?_set_self hlt
  have g2 : L2.atI [D.lst (dI ms), .int (i + 1)] 0 = some (.lst (dI ms)) := rfl
  have g3 : L2.atI [D.lst (dI ms), .int (i + 1)] 1 = some (.int (i + 1)) := rfl
  simp only [e_var, e_C, e_op, e_un, e_test, e_tru, e_and, e_or, e_not, e_andV, e_orV, e_notV, e_if, e_nil, e_cons, e_lst, e_lstM, e_tup, e_N, e_R1, e_R2, e_call, e_meth, e_make, e_fld, e_bm, e_noPart, e_part, e_sl, e_yes, e_lc, e_seqI, e_goL, e_goScr, e_rng1, e_rng2, e_next, e_seq, e_set, e_asg, e_exp, e_ret, e_retN, e_sif, e_brk, e_cnt, e_sub, e_augsub, e_aug, e_sfld, e_augfld, e_for, e_chain, e_add, e_addI, e_addL, e_addT, e_addS, e_subI, e_mul, e_mulI, e_fdiv, e_mod, e_pow, e_shl, e_shr, e_band, e_bor, e_bxor, e_lt, e_le, e_gt, e_ge, e_neg, e_eqI, e_neI, e_eqS, e_neS, e_eqB, e_neB, e_eqNI, e_neNI, e_isNN, e_isIN, e_isSN, e_isBN, e_isTN, e_isLN, e_isON, e_isntNN, e_isntIN, e_isntSN, e_isntTN, e_isntLN, e_isntON, e_min2, e_max2, e_int1, e_int1b, e_lenL, e_lenT, e_lenKT, e_lenS, e_lenScr, e_listL, e_listT, e_outT, e_outF, e_slL, e_slT, e_ixL, e_ixT, e_ixKT, e_ixScr, e_isi1, e_isi2, e_tyN, e_tyB, e_tyI, e_tyS, e_tyL, e_tyT, e_tyKT, e_k_NoneType_int, e_k_NoneType_bool, e_k_NoneType_str, e_k_NoneType_list, e_k_NoneType_tuple, e_k_NoneType_dict, e_k_bool_int, e_k_bool_bool, e_k_bool_str, e_k_bool_list, e_k_bool_tuple, e_k_bool_dict, e_k_int_int, e_k_int_bool, e_k_int_str, e_k_int_list, e_k_int_tuple, e_k_int_dict, e_k_str_int, e_k_str_bool, e_k_str_str, e_k_str_list, e_k_str_tuple, e_k_str_dict, e_k_list_int, e_k_list_bool, e_k_list_str, e_k_list_list, e_k_list_tuple, e_k_list_dict, e_k_tuple_int, e_k_tuple_bool, e_k_tuple_str, e_k_tuple_list, e_k_tuple_tuple, e_k_tuple_dict, e_k_dict_int, e_k_dict_bool, e_k_dict_str, e_k_dict_list, e_k_dict_tuple, e_k_dict_dict, List.getElem?_cons_zero, List.getElem?_cons_succ, List.set_cons_zero, List.set_cons_succ, decide_true, decide_false, Bool.not_true, Bool.not_false, if_true, if_false, ite_true, ite_false, Bool.false_eq_true, true_and, and_true, truD, eq_self, Int.zero_add, e_ixO hn2, g2, g3]
  refine ⟨ms, i + 1, rfl, by omega, fun v => ?_⟩
  simp only [e_var, e_C, e_op, e_un, e_test, e_tru, e_and, e_or, e_not, e_andV, e_orV, e_notV, e_if, e_nil, e_cons, e_lst, e_lstM, e_tup, e_N, e_R1, e_R2, e_call, e_meth, e_make, e_fld, e_bm, e_noPart, e_part, e_sl, e_yes, e_lc, e_seqI, e_goL, e_goScr, e_rng1, e_rng2, e_next, e_seq, e_set, e_asg, e_exp, e_ret, e_retN, e_sif, e_brk, e_cnt, e_sub, e_augsub, e_aug, e_sfld, e_augfld, e_for, e_chain, e_add, e_addI, e_addL, e_addT, e_addS, e_subI, e_mul, e_mulI, e_fdiv, e_mod, e_pow, e_shl, e_shr, e_band, e_bor, e_bxor, e_lt, e_le, e_gt, e_ge, e_neg, e_eqI, e_neI, e_eqS, e_neS, e_eqB, e_neB, e_eqNI, e_neNI, e_isNN, e_isIN, e_isSN, e_isBN, e_isTN, e_isLN, e_isON, e_isntNN, e_isntIN, e_isntSN, e_isntTN, e_isntLN, e_isntON, e_min2, e_max2, e_int1, e_int1b, e_lenL, e_lenT, e_lenKT, e_lenS, e_lenScr, e_listL, e_listT, e_outT, e_outF, e_slL, e_slT, e_ixL, e_ixT, e_ixKT, e_ixScr, e_isi1, e_isi2, e_tyN, e_tyB, e_tyI, e_tyS, e_tyL, e_tyT, e_tyKT, e_k_NoneType_int, e_k_NoneType_bool, e_k_NoneType_str, e_k_NoneType_list, e_k_NoneType_tuple, e_k_NoneType_dict, e_k_bool_int, e_k_bool_bool, e_k_bool_str, e_k_bool_list, e_k_bool_tuple, e_k_bool_dict, e_k_int_int, e_k_int_bool, e_k_int_str, e_k_int_list, e_k_int_tuple, e_k_int_dict, e_k_str_int, e_k_str_bool, e_k_str_str, e_k_str_list, e_k_str_tuple, e_k_str_dict, e_k_list_int, e_k_list_bool, e_k_list_str, e_k_list_list, e_k_list_tuple, e_k_list_dict, e_k_tuple_int, e_k_tuple_bool, e_k_tuple_str, e_k_tuple_list, e_k_tuple_tuple, e_k_tuple_dict, e_k_dict_int, e_k_dict_bool, e_k_dict_str, e_k_dict_list, e_k_dict_tuple, e_k_dict_dict, List.getElem?_cons_zero, List.getElem?_cons_succ, List.set_cons_zero, List.set_cons_succ, decide_true, decide_false, Bool.not_true, Bool.not_false, if_true, if_false, ite_true, ite_false, Bool.false_eq_true, true_and, and_true, truD, eq_self, Int.zero_add]
  refine ⟨hL, .gd (by rw [List.length_set]; exact Nat.le_refl _) (.set .refl ⟨bd_dI, True.intro, True.intro⟩) True.intro (q _ ms (i + 1) (Int.emod_nonneg _ (by omega)) (Int.emod_lt_of_pos _ hL) (by omega))⟩
theorem rd__law_after {ds : List D} {a : A} {Q : DQ} {E : Exq} (h : S__law_after ds a Q E) : t__law_after { nx := fun _ a' => Ret a Q .non a', rt := Ret a Q } (startD ["data", "steps", "kind", "number"] ds) a := by
  obtain ⟨xs, ss, rfl, hf, q⟩ := h
  show t__law_after _ [some (.lst (dI xs)), some (.lst (ss.map encL)), none, none] a
  unfold t__law_after
  refine seqG fun M hM => ?_
  simp only [e_var, e_C, e_op, e_un, e_test, e_tru, e_and, e_or, e_not, e_andV, e_orV, e_notV, e_if, e_nil, e_cons, e_lst, e_lstM, e_tup, e_N, e_R1, e_R2, e_call, e_meth, e_make, e_fld, e_bm, e_noPart, e_part, e_sl, e_yes, e_lc, e_seqI, e_goL, e_goScr, e_rng1, e_rng2, e_next, e_seq, e_set, e_asg, e_exp, e_ret, e_retN, e_sif, e_brk, e_cnt, e_sub, e_augsub, e_aug, e_sfld, e_augfld, e_for, e_chain, e_add, e_addI, e_addL, e_addT, e_addS, e_subI, e_mul, e_mulI, e_fdiv, e_mod, e_pow, e_shl, e_shr, e_band, e_bor, e_bxor, e_lt, e_le, e_gt, e_ge, e_neg, e_eqI, e_neI, e_eqS, e_neS, e_eqB, e_neB, e_eqNI, e_neNI, e_isNN, e_isIN, e_isSN, e_isBN, e_isTN, e_isLN, e_isON, e_isntNN, e_isntIN, e_isntSN, e_isntTN, e_isntLN, e_isntON, e_min2, e_max2, e_int1, e_int1b, e_lenL, e_lenT, e_lenKT, e_lenS, e_lenScr, e_listL, e_listT, e_outT, e_outF, e_slL, e_slT, e_ixL, e_ixT, e_ixKT, e_ixScr, e_isi1, e_isi2, e_tyN, e_tyB, e_tyI, e_tyS, e_tyL, e_tyT, e_tyKT, e_k_NoneType_int, e_k_NoneType_bool, e_k_NoneType_str, e_k_NoneType_list, e_k_NoneType_tuple, e_k_NoneType_dict, e_k_bool_int, e_k_bool_bool, e_k_bool_str, e_k_bool_list, e_k_bool_tuple, e_k_bool_dict, e_k_int_int, e_k_int_bool, e_k_int_str, e_k_int_list, e_k_int_tuple, e_k_int_dict, e_k_str_int, e_k_str_bool, e_k_str_str, e_k_str_list, e_k_str_tuple, e_k_str_dict, e_k_list_int, e_k_list_bool, e_k_list_str, e_k_list_list, e_k_list_tuple, e_k_list_dict, e_k_tuple_int, e_k_tuple_bool, e_k_tuple_str, e_k_tuple_list, e_k_tuple_tuple, e_k_tuple_dict, e_k_dict_int, e_k_dict_bool, e_k_dict_str, e_k_dict_list, e_k_dict_tuple, e_k_dict_dict, List.getElem?_cons_zero, List.getElem?_cons_succ, List.set_cons_zero, List.set_cons_succ, decide_true, decide_false, Bool.not_true, Bool.not_false, if_true, if_false, ite_true, ite_false, Bool.false_eq_true, true_and, and_true, truD, eq_self, Int.zero_add, dI_len]
  refine ⟨hf.of (by omega), ?_⟩
  subst hM
  refine seqG fun M hM => ?_
  simp only [e_var, e_C, e_op, e_un, e_test, e_tru, e_and, e_or, e_not, e_andV, e_orV, e_notV, e_if, e_nil, e_cons, e_lst, e_lstM, e_tup, e_N, e_R1, e_R2, e_call, e_meth, e_make, e_fld, e_bm, e_noPart, e_part, e_sl, e_yes, e_lc, e_seqI, e_goL, e_goScr, e_rng1, e_rng2, e_next, e_seq, e_set, e_asg, e_exp, e_ret, e_retN, e_sif, e_brk, e_cnt, e_sub, e_augsub, e_aug, e_sfld, e_augfld, e_for, e_chain, e_add, e_addI, e_addL, e_addT, e_addS, e_subI, e_mul, e_mulI, e_fdiv, e_mod, e_pow, e_shl, e_shr, e_band, e_bor, e_bxor, e_lt, e_le, e_gt, e_ge, e_neg, e_eqI, e_neI, e_eqS, e_neS, e_eqB, e_neB, e_eqNI, e_neNI, e_isNN, e_isIN, e_isSN, e_isBN, e_isTN, e_isLN, e_isON, e_isntNN, e_isntIN, e_isntSN, e_isntTN, e_isntLN, e_isntON, e_min2, e_max2, e_int1, e_int1b, e_lenL, e_lenT, e_lenKT, e_lenS, e_lenScr, e_listL, e_listT, e_outT, e_outF, e_slL, e_slT, e_ixL, e_ixT, e_ixKT, e_ixScr, e_isi1, e_isi2, e_tyN, e_tyB, e_tyI, e_tyS, e_tyL, e_tyT, e_tyKT, e_k_NoneType_int, e_k_NoneType_bool, e_k_NoneType_str, e_k_NoneType_list, e_k_NoneType_tuple, e_k_NoneType_dict, e_k_bool_int, e_k_bool_bool, e_k_bool_str, e_k_bool_list, e_k_bool_tuple, e_k_bool_dict, e_k_int_int, e_k_int_bool, e_k_int_str, e_k_int_list, e_k_int_tuple, e_k_int_dict, e_k_str_int, e_k_str_bool, e_k_str_str, e_k_str_list, e_k_str_tuple, e_k_str_dict, e_k_list_int, e_k_list_bool, e_k_list_str, e_k_list_list, e_k_list_tuple, e_k_list_dict, e_k_tuple_int, e_k_tuple_bool, e_k_tuple_str, e_k_tuple_list, e_k_tuple_tuple, e_k_tuple_dict, e_k_dict_int, e_k_dict_bool, e_k_dict_str, e_k_dict_list, e_k_dict_tuple, e_k_dict_dict, List.getElem?_cons_zero, List.getElem?_cons_succ, List.set_cons_zero, List.set_cons_succ, decide_true, decide_false, Bool.not_true, Bool.not_false, if_true, if_false, ite_true, ite_false, Bool.false_eq_true, true_and, and_true, truD, eq_self, Int.zero_add]
  refine forW_inv (I := fun i ρ a' => ∃ (g : A) (m : Nat) (x y : Option D), a' = a ++ g ∧ ρ = [some (.loc (a.length + m)), some (.lst (ss.map encL)), x, y] ∧ g[m]? = some (.lst (dI (runS xs (ss.take i))))) (fun _ _ _ _ => True.intro) ?_ ?_ ⟨[.lst (dI xs)], 0, none, none, rfl, rfl, rfl⟩
  · rintro i d ρ a' M hd ⟨g, m, x, y, rfl, rfl, hg⟩ hM
    obtain ⟨s, hs, rfl⟩ := map_get hd
    have hi : i < ss.length := (List.getElem?_eq_some_iff.1 hs).1
    have hrun : runS xs (ss.take (i + 1)) = step (runS xs (ss.take i)) s := by rw [take_snoc hs, run_snoc]
    have hl : (runS xs (ss.take i)).length ≤ xs.length + i := by
      have := @run_len (ss.take i) xs
      rw [List.length_take] at this
      omega
    have hgm : (a ++ g)[a.length + m]? = some (.lst (dI (runS xs (ss.take i)))) := getA.trans hg
    have hmg : m < g.length := (List.getElem?_eq_some_iff.1 hg).1
    cases s with
    | app b =>
      refine ⟨_, rfl, ?_⟩
      simp only [e_var, e_C, e_op, e_un, e_test, e_tru, e_and, e_or, e_not, e_andV, e_orV, e_notV, e_if, e_nil, e_cons, e_lst, e_lstM, e_tup, e_N, e_R1, e_R2, e_call, e_meth, e_make, e_fld, e_bm, e_noPart, e_part, e_sl, e_yes, e_lc, e_seqI, e_goL, e_goScr, e_rng1, e_rng2, e_next, e_seq, e_set, e_asg, e_exp, e_ret, e_retN, e_sif, e_brk, e_cnt, e_sub, e_augsub, e_aug, e_sfld, e_augfld, e_for, e_chain, e_add, e_addI, e_addL, e_addT, e_addS, e_subI, e_mul, e_mulI, e_fdiv, e_mod, e_pow, e_shl, e_shr, e_band, e_bor, e_bxor, e_lt, e_le, e_gt, e_ge, e_neg, e_eqI, e_neI, e_eqS, e_neS, e_eqB, e_neB, e_eqNI, e_neNI, e_isNN, e_isIN, e_isSN, e_isBN, e_isTN, e_isLN, e_isON, e_isntNN, e_isntIN, e_isntSN, e_isntTN, e_isntLN, e_isntON, e_min2, e_max2, e_int1, e_int1b, e_lenL, e_lenT, e_lenKT, e_lenS, e_lenScr, e_listL, e_listT, e_outT, e_outF, e_slL, e_slT, e_ixL, e_ixT, e_ixKT, e_ixScr, e_isi1, e_isi2, e_tyN, e_tyB, e_tyI, e_tyS, e_tyL, e_tyT, e_tyKT, e_k_NoneType_int, e_k_NoneType_bool, e_k_NoneType_str, e_k_NoneType_list, e_k_NoneType_tuple, e_k_NoneType_dict, e_k_bool_int, e_k_bool_bool, e_k_bool_str, e_k_bool_list, e_k_bool_tuple, e_k_bool_dict, e_k_int_int, e_k_int_bool, e_k_int_str, e_k_int_list, e_k_int_tuple, e_k_int_dict, e_k_str_int, e_k_str_bool, e_k_str_str, e_k_str_list, e_k_str_tuple, e_k_str_dict, e_k_list_int, e_k_list_bool, e_k_list_str, e_k_list_list, e_k_list_tuple, e_k_list_dict, e_k_tuple_int, e_k_tuple_bool, e_k_tuple_str, e_k_tuple_list, e_k_tuple_tuple, e_k_tuple_dict, e_k_dict_int, e_k_dict_bool, e_k_dict_str, e_k_dict_list, e_k_dict_tuple, e_k_dict_dict, List.getElem?_cons_zero, List.getElem?_cons_succ, List.set_cons_zero, List.set_cons_succ, decide_true, decide_false, Bool.not_true, Bool.not_false, if_true, if_false, ite_true, ite_false, Bool.false_eq_true, true_and, and_true, truD, eq_self, Int.zero_add, e_isL hgm, e_append hgm, dI_len]
      refine ⟨hf.of (by omega), hM _ _ ⟨g.set m (.lst (dI (runS xs (ss.take i)) ++ [.int b])), m, _, _, setA, rfl, ?_⟩⟩
      rw [List.getElem?_set_self hmg, hrun]
      exact congrArg (fun z => some (AO.lst z)) (dI_app (ys := [b]))
    | cut n =>
      refine ⟨_, rfl, ?_⟩
      simp only [e_var, e_C, e_op, e_un, e_test, e_tru, e_and, e_or, e_not, e_andV, e_orV, e_notV, e_if, e_nil, e_cons, e_lst, e_lstM, e_tup, e_N, e_R1, e_R2, e_call, e_meth, e_make, e_fld, e_bm, e_noPart, e_part, e_sl, e_yes, e_lc, e_seqI, e_goL, e_goScr, e_rng1, e_rng2, e_next, e_seq, e_set, e_asg, e_exp, e_ret, e_retN, e_sif, e_brk, e_cnt, e_sub, e_augsub, e_aug, e_sfld, e_augfld, e_for, e_chain, e_add, e_addI, e_addL, e_addT, e_addS, e_subI, e_mul, e_mulI, e_fdiv, e_mod, e_pow, e_shl, e_shr, e_band, e_bor, e_bxor, e_lt, e_le, e_gt, e_ge, e_neg, e_eqI, e_neI, e_eqS, e_neS, e_eqB, e_neB, e_eqNI, e_neNI, e_isNN, e_isIN, e_isSN, e_isBN, e_isTN, e_isLN, e_isON, e_isntNN, e_isntIN, e_isntSN, e_isntTN, e_isntLN, e_isntON, e_min2, e_max2, e_int1, e_int1b, e_lenL, e_lenT, e_lenKT, e_lenS, e_lenScr, e_listL, e_listT, e_outT, e_outF, e_slL, e_slT, e_ixL, e_ixT, e_ixKT, e_ixScr, e_isi1, e_isi2, e_tyN, e_tyB, e_tyI, e_tyS, e_tyL, e_tyT, e_tyKT, e_k_NoneType_int, e_k_NoneType_bool, e_k_NoneType_str, e_k_NoneType_list, e_k_NoneType_tuple, e_k_NoneType_dict, e_k_bool_int, e_k_bool_bool, e_k_bool_str, e_k_bool_list, e_k_bool_tuple, e_k_bool_dict, e_k_int_int, e_k_int_bool, e_k_int_str, e_k_int_list, e_k_int_tuple, e_k_int_dict, e_k_str_int, e_k_str_bool, e_k_str_str, e_k_str_list, e_k_str_tuple, e_k_str_dict, e_k_list_int, e_k_list_bool, e_k_list_str, e_k_list_list, e_k_list_tuple, e_k_list_dict, e_k_tuple_int, e_k_tuple_bool, e_k_tuple_str, e_k_tuple_list, e_k_tuple_tuple, e_k_tuple_dict, e_k_dict_int, e_k_dict_bool, e_k_dict_str, e_k_dict_list, e_k_dict_tuple, e_k_dict_dict, List.getElem?_cons_zero, List.getElem?_cons_succ, List.set_cons_zero, List.set_cons_succ, decide_true, decide_false, Bool.not_true, Bool.not_false, if_true, if_false, ite_true, ite_false, Bool.false_eq_true, true_and, and_true, truD, eq_self, Int.zero_add, e_slO hgm, dI_len, dI_cut, show ((1 : Int) = 0) = False from by simp]
      refine ⟨hf.of (by omega), hM _ _ ⟨g ++ [.lst (dI (cutI (runS xs (ss.take i)) n))], g.length, some (.int 1), some (.int n), List.append_assoc .., ?_, ?_⟩⟩
      · rw [List.length_append]
      · rw [List.getElem?_concat_length, hrun]
        rfl
  · rintro ρ a' ⟨g, m, x, y, rfl, rfl, hg⟩
    rw [List.length_map, List.take_length] at hg
    subst hM
    have hgm : (a ++ g)[a.length + m]? = some (.lst (dI (runS xs ss))) := getA.trans hg
    simp only [e_ret]
    rw [e_frz (k := a.length + m) rfl hgm, dI_len]
    refine ⟨hf.of run_len, ?_⟩
    rw [setA]
    exact .pre bd_dI q
end K9
set_option Elab.async false
set_option linter.all false
set_option maxRecDepth 100000
set_option maxHeartbeats 1000000
namespace K9
open PySem PySem.Spec PyProof.Rows L2 DW
def stv (ms : List Int) (i : Int) : AO := .lst [.lst (dI ms), .int i]
def N1 (n : Nat) (a a' : A) : Prop := ∃ ms i, 0 ≤ i ∧ a' = a.set n (stv ms i)
theorem set_id {a : A} {n : Nat} {x : AO} (h : a[n]? = some x) : a.set n x = a := by
  apply List.ext_getElem?
  intro i
  rw [List.getElem?_set]
  split
  · rename_i e; subst e; rw [h]; simp [(List.getElem?_eq_some_iff.1 h).1]
  · rfl
theorem N1.refl {n : Nat} {a : A} (h : StAt a n) : N1 n a a := by
  obtain ⟨ms, i, h, h0⟩ := h
  exact ⟨ms, i, h0, (set_id h).symm⟩
theorem StAt.lt {n : Nat} {a : A} (h : StAt a n) : n < a.length := by
  obtain ⟨ms, i, h, h0⟩ := h
  exact (List.getElem?_eq_some_iff.1 h).1
theorem N1.len {n : Nat} {a a' : A} (h : N1 n a a') : a'.length = a.length := by
  obtain ⟨ms, i, h0, rfl⟩ := h; exact List.length_set ..
theorem N1.st {n : Nat} {a a' : A} (h : N1 n a a') (hn : n < a.length) : StAt a' n := by
  obtain ⟨ms, i, h0, rfl⟩ := h; exact ⟨ms, i, List.getElem?_set_self hn, h0⟩
theorem N1.get {n m : Nat} {a a' : A} (h : N1 n a a') (hm : n ≠ m) : a'[m]? = a[m]? := by
  obtain ⟨ms, i, h0, rfl⟩ := h; exact List.getElem?_set_ne hm
theorem N1.gd {n N : Nat} {a a' b : A} (h : N1 n a a') (g : Gd b N a) : Gd b N a' := by
  obtain ⟨ms, i, h0, rfl⟩ := h; exact g.set ⟨bd_dI, True.intro, True.intro⟩
theorem N1.file {n f k : Nat} {a a' : A} {ls : List Int} {ss : List Stp} (h : N1 n a a') (h1 : n ≠ f) (h2 : n ≠ k) (hF : FileAt a f k ls ss) : FileAt a' f k ls ss :=
  ⟨(h.get h1).trans hF.1, (h.get h2).trans hF.2.1, hF.2.2⟩
theorem nxt {n : Nat} {a a' : A} {L : Int} {Q : DQ} {E : Exq} (h : N1 n a a') (hn : n < a.length) (hL : 0 < L) (q : ∀ v a'', 0 ≤ v → v < L → N1 n a a'' → Q (.int v) a'') : S__law_next [.loc n, .int L] a' Q E := by
  refine ⟨n, L, rfl, h.st hn, hL, fun v ms i h0 h1 h2 => q v _ h0 h1 ⟨ms, i, h2, ?_⟩⟩
  obtain ⟨ms', i', _, rfl⟩ := h
  exact List.set_set ..
theorem FileAt.app {a g : A} {f k : Nat} {ls : List Int} {ss : List Stp} (h : FileAt a f k ls ss) : FileAt (a ++ g) f k ls ss :=
  ⟨by rw [List.getElem?_append_left (List.getElem?_eq_some_iff.1 h.1).1]; exact h.1, by rw [List.getElem?_append_left (List.getElem?_eq_some_iff.1 h.2.1).1]; exact h.2.1, h.2.2⟩
theorem Ret.trim {a b g : A} {Q : DQ} {d : D} (hl : b.length = a.length) (hg : Gd a a.length b) (hb : D.bd a.length d) (q : Q d b) : Ret a Q d (b ++ g) := by
  refine Ret.at a.length (Nat.le_refl _) (by rw [List.length_append]; omega) (fun i ao hi h => ?_) hb ?_
  · rw [List.getElem?_append_left (by omega)] at h; exact hg i ao h
  · rw [← hl, List.take_left]; exact q
theorem glast {b : A} {x : AO} : (b ++ [x])[b.length]? = some x := by rw [List.getElem?_append_right (Nat.le_refl _), Nat.sub_self]; rfl
theorem slast {b : A} {x y : AO} : (b ++ [x]).set b.length y = b ++ [y] := by rw [List.set_append_right _ _ (Nat.le_refl _), Nat.sub_self]; rfl
theorem e_eqLim {a : A} {l : D} {Q : DQ} (hl : limOk l) (h : l ≠ .int 0) : DW.rEq l (.int 0) a Q = Q (.bl false) a := by
  cases l with
  | non => rfl
  | int l => rw [e_eqI]; have : l ≠ 0 := fun e => h (by rw [e]); simp [this]
  | _ => exact hl.elim
theorem lost_at {a : A} {f k : Nat} {ls zs : List Int} {ss : List Stp} (h : FileAt a f k ls ss) : FileAt (lost a f zs) f a.length zs [] := by
  have hlt : f < a.length := (List.getElem?_eq_some_iff.1 h.1).1
  refine ⟨?_, ?_, by omega⟩
  · unfold lost; rw [List.getElem?_append_left (by rw [List.length_set]; exact hlt), List.getElem?_set_self hlt]
  · have := glast (b := a.set f (.obj 0 [.lst (dI zs), .loc a.length])) (x := .lst [])
    rw [List.length_set] at this
    exact this
theorem lost_get {a : A} {f m : Nat} {zs : List Int} (hm : m < a.length) (hf : m ≠ f) : (lost a f zs)[m]? = a[m]? := by
  unfold lost
  rw [List.getElem?_append_left (by rw [List.length_set]; exact hm), List.getElem?_set_ne (by omega)]
def cutsOk (ss : List Stp) : Prop := ∀ s ∈ ss, match s with | .cut z => 0 ≤ z | _ => True
/-- the file loses: the deed's end -/
theorem deed_lost {a a2 : A} {n f k : Nat} {ls zs : List Int} {ss : List Stp} {Q : DQ} (n2 : N1 n a a2) (hn : n < a.length) (hF : FileAt a f k ls ss) (hnf : n ≠ f) (hnk : n ≠ k) (hz : zs.length ≤ ls.length + ss.length)
    (q : ∀ a' ls' ss' k', Deed a a' n f k k' → FileAt a' f k' ls' ss' → ls'.length + ss'.length ≤ ls.length + ss.length + 60 → (∀ s ∈ ss', match s with | .cut z => 0 ≤ z | _ => True) → Q (.lst [.bl true, .lst (dI ls'), .lst (ss'.map encL)]) a') :
    Ret a Q (.lst [.bl true, .lst (dI zs), .lst []]) (lost a2 f zs) := by
  have hl := n2.len
  have hll := lost_len (a := a2) (n := f) (zs := zs)
  have hF2 := n2.file hnf hnk hF
  refine .gd (by omega) ?_ ⟨True.intro, bd_dI, True.intro, True.intro⟩ (q _ zs [] a2.length ⟨?_, by omega, fun m h1 h2 h3 h4 => ?_, .inr (by omega)⟩ (lost_at hF2) (by simp; omega) (fun s h => by cases h))
  · unfold lost
    refine .app1 (.set (n2.gd .refl) ⟨bd_dI, ?_, True.intro⟩) True.intro
    show a2.length < _
    rw [List.length_append, List.length_set]; simp
  · obtain ⟨ms, i, h, h0⟩ := n2.st hn
    exact ⟨ms, i, (lost_get (by omega) hnf).trans h, h0⟩
  · rw [lost_get (by omega) h3]
    exact n2.get (Ne.symm h2)
/-- the file's steps grow: the deed's end -/
theorem deed_more {a a2 g : A} {n f k : Nat} {ls : List Int} {ss tt : List Stp} {Q : DQ} (n2 : N1 n a a2) (hn : n < a.length) (hF : FileAt a f k ls ss) (hnf : n ≠ f) (hnk : n ≠ k) (hz : tt.length ≤ 60) (hc : cutsOk ss) (hct : cutsOk tt)
    (q : ∀ a' ls' ss' k', Deed a a' n f k k' → FileAt a' f k' ls' ss' → ls'.length + ss'.length ≤ ls.length + ss.length + 60 → (∀ s ∈ ss', match s with | .cut z => 0 ≤ z | _ => True) → Q (.lst [.bl true, .lst (dI ls'), .lst (ss'.map encL)]) a') :
    Ret a Q (.lst [.bl true, .lst (dI ls), .lst ((ss ++ tt).map encL)]) (a2.set k (.lst ((ss ++ tt).map encF)) ++ g) := by
  have hl := n2.len
  have hk : k < a.length := hF.put
  refine Ret.trim (by rw [List.length_set]; exact hl) (.set (n2.gd .refl) bd_encF) ⟨True.intro, bd_dI, bd_encL, True.intro⟩ (q _ ls (ss ++ tt) k ⟨?_, by rw [List.length_set]; omega, fun m h1 h2 h3 h4 => ?_, .inl rfl⟩ ⟨?_, ?_, hF.2.2⟩ (by rw [List.length_append]; omega) (fun s h => ?_))
  · obtain ⟨ms, i, h, h0⟩ := n2.st hn
    exact ⟨ms, i, by rw [List.getElem?_set_ne (Ne.symm hnk)]; exact h, h0⟩
  · rw [List.getElem?_set_ne (Ne.symm h4)]
    exact n2.get (Ne.symm h2)
  · rw [List.getElem?_set_ne (Ne.symm hF.2.2), n2.get hnf]; exact hF.1
  · rw [List.getElem?_set_self (by omega)]
  · rcases List.mem_append.1 h with h | h
    · exact hc s h
    · exact hct s h
/-- nothing happened to the file -/
theorem deed_none {a a2 : A} {n f k : Nat} {ls : List Int} {ss : List Stp} {Q : DQ} (n2 : N1 n a a2) (hn : n < a.length) (hF : FileAt a f k ls ss) (hnf : n ≠ f) (hnk : n ≠ k) (hc : cutsOk ss)
    (q : ∀ a' ls' ss' k', Deed a a' n f k k' → FileAt a' f k' ls' ss' → ls'.length + ss'.length ≤ ls.length + ss.length + 60 → (∀ s ∈ ss', match s with | .cut z => 0 ≤ z | _ => True) → Q (.lst [.bl true, .lst (dI ls'), .lst (ss'.map encL)]) a') :
    Ret a Q (.lst [.bl true, .lst (dI ls), .lst (ss.map encL)]) a2 := by
  have hl := n2.len
  have := Ret.trim (g := []) (Q := Q) (d := .lst [.bl true, .lst (dI ls), .lst (ss.map encL)]) hl (n2.gd .refl) ⟨True.intro, bd_dI, bd_encL, True.intro⟩ (q _ ls ss k ⟨n2.st hn, by omega, fun m h1 h2 h3 h4 => n2.get (Ne.symm h2), .inl rfl⟩ (n2.file hnf hnk hF) (by omega) hc)
  rwa [List.append_nil] at this
theorem lim_cases {l : D} (hl : limOk l) : l = .non ∨ ∃ i, l = .int i ∧ 0 ≤ i := by
  cases l with
  | non => exact .inl rfl
  | int i => exact .inr ⟨i, rfl, hl⟩
  | _ => exact hl.elim
theorem rd__law_deed {ds : List D} {a : A} {Q : DQ} {E : Exq} (h : S__law_deed ds a Q E) : t__law_deed { nx := fun _ a' => Ret a Q .non a', rt := Ret a Q } (startD ["state", "file", "lasting", "steps", "pick", "limit", "count", "data", "passed", "done", "size", "k", "byte"] ds) a := by
  obtain ⟨n, f, k, ls, ss, rfl, hS, hF, hnf, hnk, hb, hc, q⟩ := h
  have hn := hS.lt
  show t__law_deed _ [some (.loc n), some (.loc f), some (.lst (dI ls)), some (.lst (ss.map encL)), none, none, none, none, none, none, none, none, none] a
  unfold t__law_deed
  refine seqG fun M hM => ?_
  simp only [e_var, e_C, e_op, e_un, e_test, e_tru, e_and, e_or, e_not, e_andV, e_orV, e_notV, e_if, e_nil, e_cons, e_lst, e_lstM, e_tup, e_N, e_R1, e_R2, e_call, e_meth, e_make, e_fld, e_bm, e_noPart, e_part, e_sl, e_yes, e_lc, e_seqI, e_goL, e_goScr, e_rng1, e_rng2, e_next, e_seq, e_set, e_asg, e_exp, e_ret, e_retN, e_sif, e_brk, e_cnt, e_sub, e_augsub, e_aug, e_sfld, e_augfld, e_for, e_chain, e_add, e_addI, e_addL, e_addT, e_addS, e_subI, e_mul, e_mulI, e_fdiv, e_mod, e_pow, e_shl, e_shr, e_band, e_bor, e_bxor, e_lt, e_le, e_gt, e_ge, e_neg, e_eqI, e_neI, e_eqS, e_neS, e_eqB, e_neB, e_eqNI, e_neNI, e_isNN, e_isIN, e_isSN, e_isBN, e_isTN, e_isLN, e_isON, e_isntNN, e_isntIN, e_isntSN, e_isntTN, e_isntLN, e_isntON, e_min2, e_max2, e_int1, e_int1b, e_lenL, e_lenT, e_lenKT, e_lenS, e_lenScr, e_listL, e_listT, e_outT, e_outF, e_slL, e_slT, e_ixL, e_ixT, e_ixKT, e_ixScr, e_isi1, e_isi2, e_tyN, e_tyB, e_tyI, e_tyS, e_tyL, e_tyT, e_tyKT, e_k_NoneType_int, e_k_NoneType_bool, e_k_NoneType_str, e_k_NoneType_list, e_k_NoneType_tuple, e_k_NoneType_dict, e_k_bool_int, e_k_bool_bool, e_k_bool_str, e_k_bool_list, e_k_bool_tuple, e_k_bool_dict, e_k_int_int, e_k_int_bool, e_k_int_str, e_k_int_list, e_k_int_tuple, e_k_int_dict, e_k_str_int, e_k_str_bool, e_k_str_str, e_k_str_list, e_k_str_tuple, e_k_str_dict, e_k_list_int, e_k_list_bool, e_k_list_str, e_k_list_list, e_k_list_tuple, e_k_list_dict, e_k_tuple_int, e_k_tuple_bool, e_k_tuple_str, e_k_tuple_list, e_k_tuple_tuple, e_k_tuple_dict, e_k_dict_int, e_k_dict_bool, e_k_dict_str, e_k_dict_list, e_k_dict_tuple, e_k_dict_dict, List.getElem?_cons_zero, List.getElem?_cons_succ, List.set_cons_zero, List.set_cons_succ, decide_true, decide_false, Bool.not_true, Bool.not_false, if_true, if_false, ite_true, ite_false, Bool.false_eq_true, true_and, and_true, truD, eq_self, Int.zero_add]
  refine nxt (N1.refl hS) hn (by decide) fun pick a1 p0 p1 n1 => ?_
  subst hM
  refine seqG fun M hM => ?_
  simp only [e_var, e_C, e_op, e_un, e_test, e_tru, e_and, e_or, e_not, e_andV, e_orV, e_notV, e_if, e_nil, e_cons, e_lst, e_lstM, e_tup, e_N, e_R1, e_R2, e_call, e_meth, e_make, e_fld, e_bm, e_noPart, e_part, e_sl, e_yes, e_lc, e_seqI, e_goL, e_goScr, e_rng1, e_rng2, e_next, e_seq, e_set, e_asg, e_exp, e_ret, e_retN, e_sif, e_brk, e_cnt, e_sub, e_augsub, e_aug, e_sfld, e_augfld, e_for, e_chain, e_add, e_addI, e_addL, e_addT, e_addS, e_subI, e_mul, e_mulI, e_fdiv, e_mod, e_pow, e_shl, e_shr, e_band, e_bor, e_bxor, e_lt, e_le, e_gt, e_ge, e_neg, e_eqI, e_neI, e_eqS, e_neS, e_eqB, e_neB, e_eqNI, e_neNI, e_isNN, e_isIN, e_isSN, e_isBN, e_isTN, e_isLN, e_isON, e_isntNN, e_isntIN, e_isntSN, e_isntTN, e_isntLN, e_isntON, e_min2, e_max2, e_int1, e_int1b, e_lenL, e_lenT, e_lenKT, e_lenS, e_lenScr, e_listL, e_listT, e_outT, e_outF, e_slL, e_slT, e_ixL, e_ixT, e_ixKT, e_ixScr, e_isi1, e_isi2, e_tyN, e_tyB, e_tyI, e_tyS, e_tyL, e_tyT, e_tyKT, e_k_NoneType_int, e_k_NoneType_bool, e_k_NoneType_str, e_k_NoneType_list, e_k_NoneType_tuple, e_k_NoneType_dict, e_k_bool_int, e_k_bool_bool, e_k_bool_str, e_k_bool_list, e_k_bool_tuple, e_k_bool_dict, e_k_int_int, e_k_int_bool, e_k_int_str, e_k_int_list, e_k_int_tuple, e_k_int_dict, e_k_str_int, e_k_str_bool, e_k_str_str, e_k_str_list, e_k_str_tuple, e_k_str_dict, e_k_list_int, e_k_list_bool, e_k_list_str, e_k_list_list, e_k_list_tuple, e_k_list_dict, e_k_tuple_int, e_k_tuple_bool, e_k_tuple_str, e_k_tuple_list, e_k_tuple_tuple, e_k_tuple_dict, e_k_dict_int, e_k_dict_bool, e_k_dict_str, e_k_dict_list, e_k_dict_tuple, e_k_dict_dict, List.getElem?_cons_zero, List.getElem?_cons_succ, List.set_cons_zero, List.set_cons_succ, decide_true, decide_false, Bool.not_true, Bool.not_false, if_true, if_false, ite_true, ite_false, Bool.false_eq_true, true_and, and_true, truD, eq_self, Int.zero_add]
  subst hM
  refine seqG fun M hM => ?_
  suffices H : ∀ a2 l, N1 n a a2 → limOk l → M [some (.loc n), some (.loc f), some (.lst (dI ls)), some (.lst (ss.map encL)), some (.int pick), some l, none, none, none, none, none, none, none] a2 by
    refine ifG fun T F hT hF' => ?_
    simp only [e_var, e_C, e_op, e_un, e_test, e_tru, e_and, e_or, e_not, e_andV, e_orV, e_notV, e_if, e_nil, e_cons, e_lst, e_lstM, e_tup, e_N, e_R1, e_R2, e_call, e_meth, e_make, e_fld, e_bm, e_noPart, e_part, e_sl, e_yes, e_lc, e_seqI, e_goL, e_goScr, e_rng1, e_rng2, e_next, e_seq, e_set, e_asg, e_exp, e_ret, e_retN, e_sif, e_brk, e_cnt, e_sub, e_augsub, e_aug, e_sfld, e_augfld, e_for, e_chain, e_add, e_addI, e_addL, e_addT, e_addS, e_subI, e_mul, e_mulI, e_fdiv, e_mod, e_pow, e_shl, e_shr, e_band, e_bor, e_bxor, e_lt, e_le, e_gt, e_ge, e_neg, e_eqI, e_neI, e_eqS, e_neS, e_eqB, e_neB, e_eqNI, e_neNI, e_isNN, e_isIN, e_isSN, e_isBN, e_isTN, e_isLN, e_isON, e_isntNN, e_isntIN, e_isntSN, e_isntTN, e_isntLN, e_isntON, e_min2, e_max2, e_int1, e_int1b, e_lenL, e_lenT, e_lenKT, e_lenS, e_lenScr, e_listL, e_listT, e_outT, e_outF, e_slL, e_slT, e_ixL, e_ixT, e_ixKT, e_ixScr, e_isi1, e_isi2, e_tyN, e_tyB, e_tyI, e_tyS, e_tyL, e_tyT, e_tyKT, e_k_NoneType_int, e_k_NoneType_bool, e_k_NoneType_str, e_k_NoneType_list, e_k_NoneType_tuple, e_k_NoneType_dict, e_k_bool_int, e_k_bool_bool, e_k_bool_str, e_k_bool_list, e_k_bool_tuple, e_k_bool_dict, e_k_int_int, e_k_int_bool, e_k_int_str, e_k_int_list, e_k_int_tuple, e_k_int_dict, e_k_str_int, e_k_str_bool, e_k_str_str, e_k_str_list, e_k_str_tuple, e_k_str_dict, e_k_list_int, e_k_list_bool, e_k_list_str, e_k_list_list, e_k_list_tuple, e_k_list_dict, e_k_tuple_int, e_k_tuple_bool, e_k_tuple_str, e_k_tuple_list, e_k_tuple_tuple, e_k_tuple_dict, e_k_dict_int, e_k_dict_bool, e_k_dict_str, e_k_dict_list, e_k_dict_tuple, e_k_dict_dict, List.getElem?_cons_zero, List.getElem?_cons_succ, List.set_cons_zero, List.set_cons_succ, decide_true, decide_false, Bool.not_true, Bool.not_false, if_true, if_false, ite_true, ite_false, Bool.false_eq_true, true_and, and_true, truD, eq_self, Int.zero_add]
    refine nxt n1 hn (by decide) fun v a2 _ _ n2 => ?_
    simp only [e_var, e_C, e_op, e_un, e_test, e_tru, e_and, e_or, e_not, e_andV, e_orV, e_notV, e_if, e_nil, e_cons, e_lst, e_lstM, e_tup, e_N, e_R1, e_R2, e_call, e_meth, e_make, e_fld, e_bm, e_noPart, e_part, e_sl, e_yes, e_lc, e_seqI, e_goL, e_goScr, e_rng1, e_rng2, e_next, e_seq, e_set, e_asg, e_exp, e_ret, e_retN, e_sif, e_brk, e_cnt, e_sub, e_augsub, e_aug, e_sfld, e_augfld, e_for, e_chain, e_add, e_addI, e_addL, e_addT, e_addS, e_subI, e_mul, e_mulI, e_fdiv, e_mod, e_pow, e_shl, e_shr, e_band, e_bor, e_bxor, e_lt, e_le, e_gt, e_ge, e_neg, e_eqI, e_neI, e_eqS, e_neS, e_eqB, e_neB, e_eqNI, e_neNI, e_isNN, e_isIN, e_isSN, e_isBN, e_isTN, e_isLN, e_isON, e_isntNN, e_isntIN, e_isntSN, e_isntTN, e_isntLN, e_isntON, e_min2, e_max2, e_int1, e_int1b, e_lenL, e_lenT, e_lenKT, e_lenS, e_lenScr, e_listL, e_listT, e_outT, e_outF, e_slL, e_slT, e_ixL, e_ixT, e_ixKT, e_ixScr, e_isi1, e_isi2, e_tyN, e_tyB, e_tyI, e_tyS, e_tyL, e_tyT, e_tyKT, e_k_NoneType_int, e_k_NoneType_bool, e_k_NoneType_str, e_k_NoneType_list, e_k_NoneType_tuple, e_k_NoneType_dict, e_k_bool_int, e_k_bool_bool, e_k_bool_str, e_k_bool_list, e_k_bool_tuple, e_k_bool_dict, e_k_int_int, e_k_int_bool, e_k_int_str, e_k_int_list, e_k_int_tuple, e_k_int_dict, e_k_str_int, e_k_str_bool, e_k_str_str, e_k_str_list, e_k_str_tuple, e_k_str_dict, e_k_list_int, e_k_list_bool, e_k_list_str, e_k_list_list, e_k_list_tuple, e_k_list_dict, e_k_tuple_int, e_k_tuple_bool, e_k_tuple_str, e_k_tuple_list, e_k_tuple_tuple, e_k_tuple_dict, e_k_dict_int, e_k_dict_bool, e_k_dict_str, e_k_dict_list, e_k_dict_tuple, e_k_dict_dict, List.getElem?_cons_zero, List.getElem?_cons_succ, List.set_cons_zero, List.set_cons_succ, decide_true, decide_false, Bool.not_true, Bool.not_false, if_true, if_false, ite_true, ite_false, Bool.false_eq_true, true_and, and_true, truD, eq_self, Int.zero_add]
    split
    · subst hT
      simp only [e_var, e_C, e_op, e_un, e_test, e_tru, e_and, e_or, e_not, e_andV, e_orV, e_notV, e_if, e_nil, e_cons, e_lst, e_lstM, e_tup, e_N, e_R1, e_R2, e_call, e_meth, e_make, e_fld, e_bm, e_noPart, e_part, e_sl, e_yes, e_lc, e_seqI, e_goL, e_goScr, e_rng1, e_rng2, e_next, e_seq, e_set, e_asg, e_exp, e_ret, e_retN, e_sif, e_brk, e_cnt, e_sub, e_augsub, e_aug, e_sfld, e_augfld, e_for, e_chain, e_add, e_addI, e_addL, e_addT, e_addS, e_subI, e_mul, e_mulI, e_fdiv, e_mod, e_pow, e_shl, e_shr, e_band, e_bor, e_bxor, e_lt, e_le, e_gt, e_ge, e_neg, e_eqI, e_neI, e_eqS, e_neS, e_eqB, e_neB, e_eqNI, e_neNI, e_isNN, e_isIN, e_isSN, e_isBN, e_isTN, e_isLN, e_isON, e_isntNN, e_isntIN, e_isntSN, e_isntTN, e_isntLN, e_isntON, e_min2, e_max2, e_int1, e_int1b, e_lenL, e_lenT, e_lenKT, e_lenS, e_lenScr, e_listL, e_listT, e_outT, e_outF, e_slL, e_slT, e_ixL, e_ixT, e_ixKT, e_ixScr, e_isi1, e_isi2, e_tyN, e_tyB, e_tyI, e_tyS, e_tyL, e_tyT, e_tyKT, e_k_NoneType_int, e_k_NoneType_bool, e_k_NoneType_str, e_k_NoneType_list, e_k_NoneType_tuple, e_k_NoneType_dict, e_k_bool_int, e_k_bool_bool, e_k_bool_str, e_k_bool_list, e_k_bool_tuple, e_k_bool_dict, e_k_int_int, e_k_int_bool, e_k_int_str, e_k_int_list, e_k_int_tuple, e_k_int_dict, e_k_str_int, e_k_str_bool, e_k_str_str, e_k_str_list, e_k_str_tuple, e_k_str_dict, e_k_list_int, e_k_list_bool, e_k_list_str, e_k_list_list, e_k_list_tuple, e_k_list_dict, e_k_tuple_int, e_k_tuple_bool, e_k_tuple_str, e_k_tuple_list, e_k_tuple_tuple, e_k_tuple_dict, e_k_dict_int, e_k_dict_bool, e_k_dict_str, e_k_dict_list, e_k_dict_tuple, e_k_dict_dict, List.getElem?_cons_zero, List.getElem?_cons_succ, List.set_cons_zero, List.set_cons_succ, decide_true, decide_false, Bool.not_true, Bool.not_false, if_true, if_false, ite_true, ite_false, Bool.false_eq_true, true_and, and_true, truD, eq_self, Int.zero_add]
      refine nxt n2 hn (by decide) fun v1 a3 h1 _ n3 => nxt n3 hn (by decide) fun v2 a4 h2 _ n4 => ?_
      refine ⟨fits_small (by simp), nxt n4 hn (by decide) fun v3 a5 h3 h3' n5 => ?_⟩
      simp only [e_var, e_C, e_op, e_un, e_test, e_tru, e_and, e_or, e_not, e_andV, e_orV, e_notV, e_if, e_nil, e_cons, e_lst, e_lstM, e_tup, e_N, e_R1, e_R2, e_call, e_meth, e_make, e_fld, e_bm, e_noPart, e_part, e_sl, e_yes, e_lc, e_seqI, e_goL, e_goScr, e_rng1, e_rng2, e_next, e_seq, e_set, e_asg, e_exp, e_ret, e_retN, e_sif, e_brk, e_cnt, e_sub, e_augsub, e_aug, e_sfld, e_augfld, e_for, e_chain, e_add, e_addI, e_addL, e_addT, e_addS, e_subI, e_mul, e_mulI, e_fdiv, e_mod, e_pow, e_shl, e_shr, e_band, e_bor, e_bxor, e_lt, e_le, e_gt, e_ge, e_neg, e_eqI, e_neI, e_eqS, e_neS, e_eqB, e_neB, e_eqNI, e_neNI, e_isNN, e_isIN, e_isSN, e_isBN, e_isTN, e_isLN, e_isON, e_isntNN, e_isntIN, e_isntSN, e_isntTN, e_isntLN, e_isntON, e_min2, e_max2, e_int1, e_int1b, e_lenL, e_lenT, e_lenKT, e_lenS, e_lenScr, e_listL, e_listT, e_outT, e_outF, e_slL, e_slT, e_ixL, e_ixT, e_ixKT, e_ixScr, e_isi1, e_isi2, e_tyN, e_tyB, e_tyI, e_tyS, e_tyL, e_tyT, e_tyKT, e_k_NoneType_int, e_k_NoneType_bool, e_k_NoneType_str, e_k_NoneType_list, e_k_NoneType_tuple, e_k_NoneType_dict, e_k_bool_int, e_k_bool_bool, e_k_bool_str, e_k_bool_list, e_k_bool_tuple, e_k_bool_dict, e_k_int_int, e_k_int_bool, e_k_int_str, e_k_int_list, e_k_int_tuple, e_k_int_dict, e_k_str_int, e_k_str_bool, e_k_str_str, e_k_str_list, e_k_str_tuple, e_k_str_dict, e_k_list_int, e_k_list_bool, e_k_list_str, e_k_list_list, e_k_list_tuple, e_k_list_dict, e_k_tuple_int, e_k_tuple_bool, e_k_tuple_str, e_k_tuple_list, e_k_tuple_tuple, e_k_tuple_dict, e_k_dict_int, e_k_dict_bool, e_k_dict_str, e_k_dict_list, e_k_dict_tuple, e_k_dict_dict, List.getElem?_cons_zero, List.getElem?_cons_succ, List.set_cons_zero, List.set_cons_succ, decide_true, decide_false, Bool.not_true, Bool.not_false, if_true, if_false, ite_true, ite_false, Bool.false_eq_true, true_and, and_true, truD, eq_self, Int.zero_add]
      rcases (show v3 = 0 ∨ v3 = 1 by omega) with rfl | rfl
      · exact H _ _ n5 h1
      · exact H _ _ n5 h2
    · subst hF'
      simp only [e_var, e_C, e_op, e_un, e_test, e_tru, e_and, e_or, e_not, e_andV, e_orV, e_notV, e_if, e_nil, e_cons, e_lst, e_lstM, e_tup, e_N, e_R1, e_R2, e_call, e_meth, e_make, e_fld, e_bm, e_noPart, e_part, e_sl, e_yes, e_lc, e_seqI, e_goL, e_goScr, e_rng1, e_rng2, e_next, e_seq, e_set, e_asg, e_exp, e_ret, e_retN, e_sif, e_brk, e_cnt, e_sub, e_augsub, e_aug, e_sfld, e_augfld, e_for, e_chain, e_add, e_addI, e_addL, e_addT, e_addS, e_subI, e_mul, e_mulI, e_fdiv, e_mod, e_pow, e_shl, e_shr, e_band, e_bor, e_bxor, e_lt, e_le, e_gt, e_ge, e_neg, e_eqI, e_neI, e_eqS, e_neS, e_eqB, e_neB, e_eqNI, e_neNI, e_isNN, e_isIN, e_isSN, e_isBN, e_isTN, e_isLN, e_isON, e_isntNN, e_isntIN, e_isntSN, e_isntTN, e_isntLN, e_isntON, e_min2, e_max2, e_int1, e_int1b, e_lenL, e_lenT, e_lenKT, e_lenS, e_lenScr, e_listL, e_listT, e_outT, e_outF, e_slL, e_slT, e_ixL, e_ixT, e_ixKT, e_ixScr, e_isi1, e_isi2, e_tyN, e_tyB, e_tyI, e_tyS, e_tyL, e_tyT, e_tyKT, e_k_NoneType_int, e_k_NoneType_bool, e_k_NoneType_str, e_k_NoneType_list, e_k_NoneType_tuple, e_k_NoneType_dict, e_k_bool_int, e_k_bool_bool, e_k_bool_str, e_k_bool_list, e_k_bool_tuple, e_k_bool_dict, e_k_int_int, e_k_int_bool, e_k_int_str, e_k_int_list, e_k_int_tuple, e_k_int_dict, e_k_str_int, e_k_str_bool, e_k_str_str, e_k_str_list, e_k_str_tuple, e_k_str_dict, e_k_list_int, e_k_list_bool, e_k_list_str, e_k_list_list, e_k_list_tuple, e_k_list_dict, e_k_tuple_int, e_k_tuple_bool, e_k_tuple_str, e_k_tuple_list, e_k_tuple_tuple, e_k_tuple_dict, e_k_dict_int, e_k_dict_bool, e_k_dict_str, e_k_dict_list, e_k_dict_tuple, e_k_dict_dict, List.getElem?_cons_zero, List.getElem?_cons_succ, List.set_cons_zero, List.set_cons_succ, decide_true, decide_false, Bool.not_true, Bool.not_false, if_true, if_false, ite_true, ite_false, Bool.false_eq_true, true_and, and_true, truD, eq_self, Int.zero_add]
      exact H _ _ n2 True.intro
  clear n1 a1
  intro a2 l n2 hl
  subst hM
  have hF2 := n2.file hnf hnk hF
  refine seqG fun M hM => ?_
  refine ifG fun T F hT hF' => ?_
  simp only [e_var, e_C, e_op, e_un, e_test, e_tru, e_and, e_or, e_not, e_andV, e_orV, e_notV, e_if, e_nil, e_cons, e_lst, e_lstM, e_tup, e_N, e_R1, e_R2, e_call, e_meth, e_make, e_fld, e_bm, e_noPart, e_part, e_sl, e_yes, e_lc, e_seqI, e_goL, e_goScr, e_rng1, e_rng2, e_next, e_seq, e_set, e_asg, e_exp, e_ret, e_retN, e_sif, e_brk, e_cnt, e_sub, e_augsub, e_aug, e_sfld, e_augfld, e_for, e_chain, e_add, e_addI, e_addL, e_addT, e_addS, e_subI, e_mul, e_mulI, e_fdiv, e_mod, e_pow, e_shl, e_shr, e_band, e_bor, e_bxor, e_lt, e_le, e_gt, e_ge, e_neg, e_eqI, e_neI, e_eqS, e_neS, e_eqB, e_neB, e_eqNI, e_neNI, e_isNN, e_isIN, e_isSN, e_isBN, e_isTN, e_isLN, e_isON, e_isntNN, e_isntIN, e_isntSN, e_isntTN, e_isntLN, e_isntON, e_min2, e_max2, e_int1, e_int1b, e_lenL, e_lenT, e_lenKT, e_lenS, e_lenScr, e_listL, e_listT, e_outT, e_outF, e_slL, e_slT, e_ixL, e_ixT, e_ixKT, e_ixScr, e_isi1, e_isi2, e_tyN, e_tyB, e_tyI, e_tyS, e_tyL, e_tyT, e_tyKT, e_k_NoneType_int, e_k_NoneType_bool, e_k_NoneType_str, e_k_NoneType_list, e_k_NoneType_tuple, e_k_NoneType_dict, e_k_bool_int, e_k_bool_bool, e_k_bool_str, e_k_bool_list, e_k_bool_tuple, e_k_bool_dict, e_k_int_int, e_k_int_bool, e_k_int_str, e_k_int_list, e_k_int_tuple, e_k_int_dict, e_k_str_int, e_k_str_bool, e_k_str_str, e_k_str_list, e_k_str_tuple, e_k_str_dict, e_k_list_int, e_k_list_bool, e_k_list_str, e_k_list_list, e_k_list_tuple, e_k_list_dict, e_k_tuple_int, e_k_tuple_bool, e_k_tuple_str, e_k_tuple_list, e_k_tuple_tuple, e_k_tuple_dict, e_k_dict_int, e_k_dict_bool, e_k_dict_str, e_k_dict_list, e_k_dict_tuple, e_k_dict_dict, List.getElem?_cons_zero, List.getElem?_cons_succ, List.set_cons_zero, List.set_cons_succ, decide_true, decide_false, Bool.not_true, Bool.not_false, if_true, if_false, ite_true, ite_false, Bool.false_eq_true, true_and, and_true, truD, eq_self, Int.zero_add]
  by_cases c1 : pick < 3
  · simp only [c1, e_var, e_C, e_op, e_un, e_test, e_tru, e_and, e_or, e_not, e_andV, e_orV, e_notV, e_if, e_nil, e_cons, e_lst, e_lstM, e_tup, e_N, e_R1, e_R2, e_call, e_meth, e_make, e_fld, e_bm, e_noPart, e_part, e_sl, e_yes, e_lc, e_seqI, e_goL, e_goScr, e_rng1, e_rng2, e_next, e_seq, e_set, e_asg, e_exp, e_ret, e_retN, e_sif, e_brk, e_cnt, e_sub, e_augsub, e_aug, e_sfld, e_augfld, e_for, e_chain, e_add, e_addI, e_addL, e_addT, e_addS, e_subI, e_mul, e_mulI, e_fdiv, e_mod, e_pow, e_shl, e_shr, e_band, e_bor, e_bxor, e_lt, e_le, e_gt, e_ge, e_neg, e_eqI, e_neI, e_eqS, e_neS, e_eqB, e_neB, e_eqNI, e_neNI, e_isNN, e_isIN, e_isSN, e_isBN, e_isTN, e_isLN, e_isON, e_isntNN, e_isntIN, e_isntSN, e_isntTN, e_isntLN, e_isntON, e_min2, e_max2, e_int1, e_int1b, e_lenL, e_lenT, e_lenKT, e_lenS, e_lenScr, e_listL, e_listT, e_outT, e_outF, e_slL, e_slT, e_ixL, e_ixT, e_ixKT, e_ixScr, e_isi1, e_isi2, e_tyN, e_tyB, e_tyI, e_tyS, e_tyL, e_tyT, e_tyKT, e_k_NoneType_int, e_k_NoneType_bool, e_k_NoneType_str, e_k_NoneType_list, e_k_NoneType_tuple, e_k_NoneType_dict, e_k_bool_int, e_k_bool_bool, e_k_bool_str, e_k_bool_list, e_k_bool_tuple, e_k_bool_dict, e_k_int_int, e_k_int_bool, e_k_int_str, e_k_int_list, e_k_int_tuple, e_k_int_dict, e_k_str_int, e_k_str_bool, e_k_str_str, e_k_str_list, e_k_str_tuple, e_k_str_dict, e_k_list_int, e_k_list_bool, e_k_list_str, e_k_list_list, e_k_list_tuple, e_k_list_dict, e_k_tuple_int, e_k_tuple_bool, e_k_tuple_str, e_k_tuple_list, e_k_tuple_tuple, e_k_tuple_dict, e_k_dict_int, e_k_dict_bool, e_k_dict_str, e_k_dict_list, e_k_dict_tuple, e_k_dict_dict, List.getElem?_cons_zero, List.getElem?_cons_succ, List.set_cons_zero, List.set_cons_succ, decide_true, decide_false, Bool.not_true, Bool.not_false, if_true, if_false, ite_true, ite_false, Bool.false_eq_true, true_and, and_true, truD, eq_self, Int.zero_add]
    subst hT
    refine seqG fun M1 hM1 => ?_
    suffices H : ∀ a3 xs, N1 n a a3 → xs.length ≤ 60 → M1 [some (.loc n), some (.loc f), some (.lst (dI ls)), some (.lst (ss.map encL)), some (.int pick), some l, none, some (.lst (dI xs)), none, none, none, none, none] a3 by
      simp only [e_var, e_C, e_op, e_un, e_test, e_tru, e_and, e_or, e_not, e_andV, e_orV, e_notV, e_if, e_nil, e_cons, e_lst, e_lstM, e_tup, e_N, e_R1, e_R2, e_call, e_meth, e_make, e_fld, e_bm, e_noPart, e_part, e_sl, e_yes, e_lc, e_seqI, e_goL, e_goScr, e_rng1, e_rng2, e_next, e_seq, e_set, e_asg, e_exp, e_ret, e_retN, e_sif, e_brk, e_cnt, e_sub, e_augsub, e_aug, e_sfld, e_augfld, e_for, e_chain, e_add, e_addI, e_addL, e_addT, e_addS, e_subI, e_mul, e_mulI, e_fdiv, e_mod, e_pow, e_shl, e_shr, e_band, e_bor, e_bxor, e_lt, e_le, e_gt, e_ge, e_neg, e_eqI, e_neI, e_eqS, e_neS, e_eqB, e_neB, e_eqNI, e_neNI, e_isNN, e_isIN, e_isSN, e_isBN, e_isTN, e_isLN, e_isON, e_isntNN, e_isntIN, e_isntSN, e_isntTN, e_isntLN, e_isntON, e_min2, e_max2, e_int1, e_int1b, e_lenL, e_lenT, e_lenKT, e_lenS, e_lenScr, e_listL, e_listT, e_outT, e_outF, e_slL, e_slT, e_ixL, e_ixT, e_ixKT, e_ixScr, e_isi1, e_isi2, e_tyN, e_tyB, e_tyI, e_tyS, e_tyL, e_tyT, e_tyKT, e_k_NoneType_int, e_k_NoneType_bool, e_k_NoneType_str, e_k_NoneType_list, e_k_NoneType_tuple, e_k_NoneType_dict, e_k_bool_int, e_k_bool_bool, e_k_bool_str, e_k_bool_list, e_k_bool_tuple, e_k_bool_dict, e_k_int_int, e_k_int_bool, e_k_int_str, e_k_int_list, e_k_int_tuple, e_k_int_dict, e_k_str_int, e_k_str_bool, e_k_str_str, e_k_str_list, e_k_str_tuple, e_k_str_dict, e_k_list_int, e_k_list_bool, e_k_list_str, e_k_list_list, e_k_list_tuple, e_k_list_dict, e_k_tuple_int, e_k_tuple_bool, e_k_tuple_str, e_k_tuple_list, e_k_tuple_tuple, e_k_tuple_dict, e_k_dict_int, e_k_dict_bool, e_k_dict_str, e_k_dict_list, e_k_dict_tuple, e_k_dict_dict, List.getElem?_cons_zero, List.getElem?_cons_succ, List.set_cons_zero, List.set_cons_succ, decide_true, decide_false, Bool.not_true, Bool.not_false, if_true, if_false, ite_true, ite_false, Bool.false_eq_true, true_and, and_true, truD, eq_self, Int.zero_add]
      refine nxt n2 hn (by decide) fun v a3 h0 h1 n3 => nxt n3 hn (by decide) fun v2 a4 _ _ n4 => ?_
      simp only [e_var, e_C, e_op, e_un, e_test, e_tru, e_and, e_or, e_not, e_andV, e_orV, e_notV, e_if, e_nil, e_cons, e_lst, e_lstM, e_tup, e_N, e_R1, e_R2, e_call, e_meth, e_make, e_fld, e_bm, e_noPart, e_part, e_sl, e_yes, e_lc, e_seqI, e_goL, e_goScr, e_rng1, e_rng2, e_next, e_seq, e_set, e_asg, e_exp, e_ret, e_retN, e_sif, e_brk, e_cnt, e_sub, e_augsub, e_aug, e_sfld, e_augfld, e_for, e_chain, e_add, e_addI, e_addL, e_addT, e_addS, e_subI, e_mul, e_mulI, e_fdiv, e_mod, e_pow, e_shl, e_shr, e_band, e_bor, e_bxor, e_lt, e_le, e_gt, e_ge, e_neg, e_eqI, e_neI, e_eqS, e_neS, e_eqB, e_neB, e_eqNI, e_neNI, e_isNN, e_isIN, e_isSN, e_isBN, e_isTN, e_isLN, e_isON, e_isntNN, e_isntIN, e_isntSN, e_isntTN, e_isntLN, e_isntON, e_min2, e_max2, e_int1, e_int1b, e_lenL, e_lenT, e_lenKT, e_lenS, e_lenScr, e_listL, e_listT, e_outT, e_outF, e_slL, e_slT, e_ixL, e_ixT, e_ixKT, e_ixScr, e_isi1, e_isi2, e_tyN, e_tyB, e_tyI, e_tyS, e_tyL, e_tyT, e_tyKT, e_k_NoneType_int, e_k_NoneType_bool, e_k_NoneType_str, e_k_NoneType_list, e_k_NoneType_tuple, e_k_NoneType_dict, e_k_bool_int, e_k_bool_bool, e_k_bool_str, e_k_bool_list, e_k_bool_tuple, e_k_bool_dict, e_k_int_int, e_k_int_bool, e_k_int_str, e_k_int_list, e_k_int_tuple, e_k_int_dict, e_k_str_int, e_k_str_bool, e_k_str_str, e_k_str_list, e_k_str_tuple, e_k_str_dict, e_k_list_int, e_k_list_bool, e_k_list_str, e_k_list_list, e_k_list_tuple, e_k_list_dict, e_k_tuple_int, e_k_tuple_bool, e_k_tuple_str, e_k_tuple_list, e_k_tuple_tuple, e_k_tuple_dict, e_k_dict_int, e_k_dict_bool, e_k_dict_str, e_k_dict_list, e_k_dict_tuple, e_k_dict_dict, List.getElem?_cons_zero, List.getElem?_cons_succ, List.set_cons_zero, List.set_cons_succ, decide_true, decide_false, Bool.not_true, Bool.not_false, if_true, if_false, ite_true, ite_false, Bool.false_eq_true, true_and, and_true, truD, eq_self, Int.zero_add, wipeD]
      refine ⟨cmulL (by decide), ?_⟩
      have hj : 0 ≤ v + 50 * (if v2 = 0 then (1 : Int) else 0) ∧ v + 50 * (if v2 = 0 then (1 : Int) else 0) < 60 := by split <;> omega
      simp only [decide_eq_true_eq]
      generalize v + 50 * (if v2 = 0 then (1 : Int) else 0) = j at hj
      refine ⟨by omega, by omega, ?_⟩
      refine lcW_inv (I := fun i acc a' => N1 n a a' ∧ ∃ xs, acc = dI xs ∧ xs.length = i) (fun _ _ _ _ => True.intro) ?_ ?_ ⟨n4, [], rfl, rfl⟩
      · rintro i d acc a' M2 hd ⟨n5, xs, rfl, hx⟩ hM2
        obtain ⟨rfl, hi⟩ := rngD_get hd
        refine ⟨_, rfl, ?_⟩
        simp only [e_var, e_C, e_op, e_un, e_test, e_tru, e_and, e_or, e_not, e_andV, e_orV, e_notV, e_if, e_nil, e_cons, e_lst, e_lstM, e_tup, e_N, e_R1, e_R2, e_call, e_meth, e_make, e_fld, e_bm, e_noPart, e_part, e_sl, e_yes, e_lc, e_seqI, e_goL, e_goScr, e_rng1, e_rng2, e_next, e_seq, e_set, e_asg, e_exp, e_ret, e_retN, e_sif, e_brk, e_cnt, e_sub, e_augsub, e_aug, e_sfld, e_augfld, e_for, e_chain, e_add, e_addI, e_addL, e_addT, e_addS, e_subI, e_mul, e_mulI, e_fdiv, e_mod, e_pow, e_shl, e_shr, e_band, e_bor, e_bxor, e_lt, e_le, e_gt, e_ge, e_neg, e_eqI, e_neI, e_eqS, e_neS, e_eqB, e_neB, e_eqNI, e_neNI, e_isNN, e_isIN, e_isSN, e_isBN, e_isTN, e_isLN, e_isON, e_isntNN, e_isntIN, e_isntSN, e_isntTN, e_isntLN, e_isntON, e_min2, e_max2, e_int1, e_int1b, e_lenL, e_lenT, e_lenKT, e_lenS, e_lenScr, e_listL, e_listT, e_outT, e_outF, e_slL, e_slT, e_ixL, e_ixT, e_ixKT, e_ixScr, e_isi1, e_isi2, e_tyN, e_tyB, e_tyI, e_tyS, e_tyL, e_tyT, e_tyKT, e_k_NoneType_int, e_k_NoneType_bool, e_k_NoneType_str, e_k_NoneType_list, e_k_NoneType_tuple, e_k_NoneType_dict, e_k_bool_int, e_k_bool_bool, e_k_bool_str, e_k_bool_list, e_k_bool_tuple, e_k_bool_dict, e_k_int_int, e_k_int_bool, e_k_int_str, e_k_int_list, e_k_int_tuple, e_k_int_dict, e_k_str_int, e_k_str_bool, e_k_str_str, e_k_str_list, e_k_str_tuple, e_k_str_dict, e_k_list_int, e_k_list_bool, e_k_list_str, e_k_list_list, e_k_list_tuple, e_k_list_dict, e_k_tuple_int, e_k_tuple_bool, e_k_tuple_str, e_k_tuple_list, e_k_tuple_tuple, e_k_tuple_dict, e_k_dict_int, e_k_dict_bool, e_k_dict_str, e_k_dict_list, e_k_dict_tuple, e_k_dict_dict, List.getElem?_cons_zero, List.getElem?_cons_succ, List.set_cons_zero, List.set_cons_succ, decide_true, decide_false, Bool.not_true, Bool.not_false, if_true, if_false, ite_true, ite_false, Bool.false_eq_true, true_and, and_true, truD, eq_self, Int.zero_add]
        refine nxt n5 hn (by decide) fun w a6 _ _ n6 => ⟨fits_small (by rw [dI_len]; omega), hM2 _ _ ⟨n6, xs ++ [w], dI_app (ys := [w]), by rw [List.length_append, hx]; rfl⟩⟩
      · rintro acc a' ⟨n5, xs, rfl, hx⟩
        rw [rngD_len] at hx
        exact ⟨fits_small (by rw [dI_len]; omega), H _ xs n5 (by omega)⟩
    clear hF2 n2 a2
    intro a3 xs n3 hx
    have hF3 := n3.file hnf hnk hF
    subst hM1
    refine seqG fun M1 hM1 => ?_
    simp only [e_var, e_C, e_op, e_un, e_test, e_tru, e_and, e_or, e_not, e_andV, e_orV, e_notV, e_if, e_nil, e_cons, e_lst, e_lstM, e_tup, e_N, e_R1, e_R2, e_call, e_meth, e_make, e_fld, e_bm, e_noPart, e_part, e_sl, e_yes, e_lc, e_seqI, e_goL, e_goScr, e_rng1, e_rng2, e_next, e_seq, e_set, e_asg, e_exp, e_ret, e_retN, e_sif, e_brk, e_cnt, e_sub, e_augsub, e_aug, e_sfld, e_augfld, e_for, e_chain, e_add, e_addI, e_addL, e_addT, e_addS, e_subI, e_mul, e_mulI, e_fdiv, e_mod, e_pow, e_shl, e_shr, e_band, e_bor, e_bxor, e_lt, e_le, e_gt, e_ge, e_neg, e_eqI, e_neI, e_eqS, e_neS, e_eqB, e_neB, e_eqNI, e_neNI, e_isNN, e_isIN, e_isSN, e_isBN, e_isTN, e_isLN, e_isON, e_isntNN, e_isntIN, e_isntSN, e_isntTN, e_isntLN, e_isntON, e_min2, e_max2, e_int1, e_int1b, e_lenL, e_lenT, e_lenKT, e_lenS, e_lenScr, e_listL, e_listT, e_outT, e_outF, e_slL, e_slT, e_ixL, e_ixT, e_ixKT, e_ixScr, e_isi1, e_isi2, e_tyN, e_tyB, e_tyI, e_tyS, e_tyL, e_tyT, e_tyKT, e_k_NoneType_int, e_k_NoneType_bool, e_k_NoneType_str, e_k_NoneType_list, e_k_NoneType_tuple, e_k_NoneType_dict, e_k_bool_int, e_k_bool_bool, e_k_bool_str, e_k_bool_list, e_k_bool_tuple, e_k_bool_dict, e_k_int_int, e_k_int_bool, e_k_int_str, e_k_int_list, e_k_int_tuple, e_k_int_dict, e_k_str_int, e_k_str_bool, e_k_str_str, e_k_str_list, e_k_str_tuple, e_k_str_dict, e_k_list_int, e_k_list_bool, e_k_list_str, e_k_list_list, e_k_list_tuple, e_k_list_dict, e_k_tuple_int, e_k_tuple_bool, e_k_tuple_str, e_k_tuple_list, e_k_tuple_tuple, e_k_tuple_dict, e_k_dict_int, e_k_dict_bool, e_k_dict_str, e_k_dict_list, e_k_dict_tuple, e_k_dict_dict, List.getElem?_cons_zero, List.getElem?_cons_succ, List.set_cons_zero, List.set_cons_succ, decide_true, decide_false, Bool.not_true, Bool.not_false, if_true, if_false, ite_true, ite_false, Bool.false_eq_true, true_and, and_true, truD, eq_self, Int.zero_add, dI_len]
    subst hM1
    refine seqG fun M1 hM1 => ?_
    suffices H : M1 [some (.loc n), some (.loc f), some (.lst (dI ls)), some (.lst (ss.map encL)), some (.int pick), some l, some (.int (limN xs.length l)), some (.lst (dI xs)), none, none, none, none, none] a3 by
      rcases lim_cases hl with rfl | ⟨i, rfl, h0⟩
      · simp only [e_var, e_C, e_op, e_un, e_test, e_tru, e_and, e_or, e_not, e_andV, e_orV, e_notV, e_if, e_nil, e_cons, e_lst, e_lstM, e_tup, e_N, e_R1, e_R2, e_call, e_meth, e_make, e_fld, e_bm, e_noPart, e_part, e_sl, e_yes, e_lc, e_seqI, e_goL, e_goScr, e_rng1, e_rng2, e_next, e_seq, e_set, e_asg, e_exp, e_ret, e_retN, e_sif, e_brk, e_cnt, e_sub, e_augsub, e_aug, e_sfld, e_augfld, e_for, e_chain, e_add, e_addI, e_addL, e_addT, e_addS, e_subI, e_mul, e_mulI, e_fdiv, e_mod, e_pow, e_shl, e_shr, e_band, e_bor, e_bxor, e_lt, e_le, e_gt, e_ge, e_neg, e_eqI, e_neI, e_eqS, e_neS, e_eqB, e_neB, e_eqNI, e_neNI, e_isNN, e_isIN, e_isSN, e_isBN, e_isTN, e_isLN, e_isON, e_isntNN, e_isntIN, e_isntSN, e_isntTN, e_isntLN, e_isntON, e_min2, e_max2, e_int1, e_int1b, e_lenL, e_lenT, e_lenKT, e_lenS, e_lenScr, e_listL, e_listT, e_outT, e_outF, e_slL, e_slT, e_ixL, e_ixT, e_ixKT, e_ixScr, e_isi1, e_isi2, e_tyN, e_tyB, e_tyI, e_tyS, e_tyL, e_tyT, e_tyKT, e_k_NoneType_int, e_k_NoneType_bool, e_k_NoneType_str, e_k_NoneType_list, e_k_NoneType_tuple, e_k_NoneType_dict, e_k_bool_int, e_k_bool_bool, e_k_bool_str, e_k_bool_list, e_k_bool_tuple, e_k_bool_dict, e_k_int_int, e_k_int_bool, e_k_int_str, e_k_int_list, e_k_int_tuple, e_k_int_dict, e_k_str_int, e_k_str_bool, e_k_str_str, e_k_str_list, e_k_str_tuple, e_k_str_dict, e_k_list_int, e_k_list_bool, e_k_list_str, e_k_list_list, e_k_list_tuple, e_k_list_dict, e_k_tuple_int, e_k_tuple_bool, e_k_tuple_str, e_k_tuple_list, e_k_tuple_tuple, e_k_tuple_dict, e_k_dict_int, e_k_dict_bool, e_k_dict_str, e_k_dict_list, e_k_dict_tuple, e_k_dict_dict, List.getElem?_cons_zero, List.getElem?_cons_succ, List.set_cons_zero, List.set_cons_succ, decide_true, decide_false, Bool.not_true, Bool.not_false, if_true, if_false, ite_true, ite_false, Bool.false_eq_true, true_and, and_true, truD, eq_self, Int.zero_add]; exact H
      · simp only [e_var, e_C, e_op, e_un, e_test, e_tru, e_and, e_or, e_not, e_andV, e_orV, e_notV, e_if, e_nil, e_cons, e_lst, e_lstM, e_tup, e_N, e_R1, e_R2, e_call, e_meth, e_make, e_fld, e_bm, e_noPart, e_part, e_sl, e_yes, e_lc, e_seqI, e_goL, e_goScr, e_rng1, e_rng2, e_next, e_seq, e_set, e_asg, e_exp, e_ret, e_retN, e_sif, e_brk, e_cnt, e_sub, e_augsub, e_aug, e_sfld, e_augfld, e_for, e_chain, e_add, e_addI, e_addL, e_addT, e_addS, e_subI, e_mul, e_mulI, e_fdiv, e_mod, e_pow, e_shl, e_shr, e_band, e_bor, e_bxor, e_lt, e_le, e_gt, e_ge, e_neg, e_eqI, e_neI, e_eqS, e_neS, e_eqB, e_neB, e_eqNI, e_neNI, e_isNN, e_isIN, e_isSN, e_isBN, e_isTN, e_isLN, e_isON, e_isntNN, e_isntIN, e_isntSN, e_isntTN, e_isntLN, e_isntON, e_min2, e_max2, e_int1, e_int1b, e_lenL, e_lenT, e_lenKT, e_lenS, e_lenScr, e_listL, e_listT, e_outT, e_outF, e_slL, e_slT, e_ixL, e_ixT, e_ixKT, e_ixScr, e_isi1, e_isi2, e_tyN, e_tyB, e_tyI, e_tyS, e_tyL, e_tyT, e_tyKT, e_k_NoneType_int, e_k_NoneType_bool, e_k_NoneType_str, e_k_NoneType_list, e_k_NoneType_tuple, e_k_NoneType_dict, e_k_bool_int, e_k_bool_bool, e_k_bool_str, e_k_bool_list, e_k_bool_tuple, e_k_bool_dict, e_k_int_int, e_k_int_bool, e_k_int_str, e_k_int_list, e_k_int_tuple, e_k_int_dict, e_k_str_int, e_k_str_bool, e_k_str_str, e_k_str_list, e_k_str_tuple, e_k_str_dict, e_k_list_int, e_k_list_bool, e_k_list_str, e_k_list_list, e_k_list_tuple, e_k_list_dict, e_k_tuple_int, e_k_tuple_bool, e_k_tuple_str, e_k_tuple_list, e_k_tuple_tuple, e_k_tuple_dict, e_k_dict_int, e_k_dict_bool, e_k_dict_str, e_k_dict_list, e_k_dict_tuple, e_k_dict_dict, List.getElem?_cons_zero, List.getElem?_cons_succ, List.set_cons_zero, List.set_cons_succ, decide_true, decide_false, Bool.not_true, Bool.not_false, if_true, if_false, ite_true, ite_false, Bool.false_eq_true, true_and, and_true, truD, eq_self, Int.zero_add]
        have : (if i < (xs.length : Int) then i else (xs.length : Int)) = (limN xs.length (.int i) : Int) := by
          show _ = ((min i.toNat xs.length : Nat) : Int)
          split <;> omega
        rw [this]; exact H
    have hcl : limN xs.length l ≤ xs.length := limN_le
    generalize hcc : limN xs.length l = c at hcl
    subst hM1
    refine seqG fun M1 hM1 => ?_
    simp only [e_var, e_C, e_op, e_un, e_test, e_tru, e_and, e_or, e_not, e_andV, e_orV, e_notV, e_if, e_nil, e_cons, e_lst, e_lstM, e_tup, e_N, e_R1, e_R2, e_call, e_meth, e_make, e_fld, e_bm, e_noPart, e_part, e_sl, e_yes, e_lc, e_seqI, e_goL, e_goScr, e_rng1, e_rng2, e_next, e_seq, e_set, e_asg, e_exp, e_ret, e_retN, e_sif, e_brk, e_cnt, e_sub, e_augsub, e_aug, e_sfld, e_augfld, e_for, e_chain, e_add, e_addI, e_addL, e_addT, e_addS, e_subI, e_mul, e_mulI, e_fdiv, e_mod, e_pow, e_shl, e_shr, e_band, e_bor, e_bxor, e_lt, e_le, e_gt, e_ge, e_neg, e_eqI, e_neI, e_eqS, e_neS, e_eqB, e_neB, e_eqNI, e_neNI, e_isNN, e_isIN, e_isSN, e_isBN, e_isTN, e_isLN, e_isON, e_isntNN, e_isntIN, e_isntSN, e_isntTN, e_isntLN, e_isntON, e_min2, e_max2, e_int1, e_int1b, e_lenL, e_lenT, e_lenKT, e_lenS, e_lenScr, e_listL, e_listT, e_outT, e_outF, e_slL, e_slT, e_ixL, e_ixT, e_ixKT, e_ixScr, e_isi1, e_isi2, e_tyN, e_tyB, e_tyI, e_tyS, e_tyL, e_tyT, e_tyKT, e_k_NoneType_int, e_k_NoneType_bool, e_k_NoneType_str, e_k_NoneType_list, e_k_NoneType_tuple, e_k_NoneType_dict, e_k_bool_int, e_k_bool_bool, e_k_bool_str, e_k_bool_list, e_k_bool_tuple, e_k_bool_dict, e_k_int_int, e_k_int_bool, e_k_int_str, e_k_int_list, e_k_int_tuple, e_k_int_dict, e_k_str_int, e_k_str_bool, e_k_str_str, e_k_str_list, e_k_str_tuple, e_k_str_dict, e_k_list_int, e_k_list_bool, e_k_list_str, e_k_list_list, e_k_list_tuple, e_k_list_dict, e_k_tuple_int, e_k_tuple_bool, e_k_tuple_str, e_k_tuple_list, e_k_tuple_tuple, e_k_tuple_dict, e_k_dict_int, e_k_dict_bool, e_k_dict_str, e_k_dict_list, e_k_dict_tuple, e_k_dict_dict, List.getElem?_cons_zero, List.getElem?_cons_succ, List.set_cons_zero, List.set_cons_succ, decide_true, decide_false, Bool.not_true, Bool.not_false, if_true, if_false, ite_true, ite_false, Bool.false_eq_true, true_and, and_true, truD, eq_self, Int.zero_add, dI_len]
    refine ⟨fits_small (by omega), ?_⟩
    subst hM1
    refine seqG fun M1 hM1 => ?_
    have hF4 : FileAt (a3 ++ [AO.lst (dI xs)]) f k ls ss := hF3.app
    simp only [e_var, e_C, e_op, e_un, e_test, e_tru, e_and, e_or, e_not, e_andV, e_orV, e_notV, e_if, e_nil, e_cons, e_lst, e_lstM, e_tup, e_N, e_R1, e_R2, e_call, e_meth, e_make, e_fld, e_bm, e_noPart, e_part, e_sl, e_yes, e_lc, e_seqI, e_goL, e_goScr, e_rng1, e_rng2, e_next, e_seq, e_set, e_asg, e_exp, e_ret, e_retN, e_sif, e_brk, e_cnt, e_sub, e_augsub, e_aug, e_sfld, e_augfld, e_for, e_chain, e_add, e_addI, e_addL, e_addT, e_addS, e_subI, e_mul, e_mulI, e_fdiv, e_mod, e_pow, e_shl, e_shr, e_band, e_bor, e_bxor, e_lt, e_le, e_gt, e_ge, e_neg, e_eqI, e_neI, e_eqS, e_neS, e_eqB, e_neB, e_eqNI, e_neNI, e_isNN, e_isIN, e_isSN, e_isBN, e_isTN, e_isLN, e_isON, e_isntNN, e_isntIN, e_isntSN, e_isntTN, e_isntLN, e_isntON, e_min2, e_max2, e_int1, e_int1b, e_lenL, e_lenT, e_lenKT, e_lenS, e_lenScr, e_listL, e_listT, e_outT, e_outF, e_slL, e_slT, e_ixL, e_ixT, e_ixKT, e_ixScr, e_isi1, e_isi2, e_tyN, e_tyB, e_tyI, e_tyS, e_tyL, e_tyT, e_tyKT, e_k_NoneType_int, e_k_NoneType_bool, e_k_NoneType_str, e_k_NoneType_list, e_k_NoneType_tuple, e_k_NoneType_dict, e_k_bool_int, e_k_bool_bool, e_k_bool_str, e_k_bool_list, e_k_bool_tuple, e_k_bool_dict, e_k_int_int, e_k_int_bool, e_k_int_str, e_k_int_list, e_k_int_tuple, e_k_int_dict, e_k_str_int, e_k_str_bool, e_k_str_str, e_k_str_list, e_k_str_tuple, e_k_str_dict, e_k_list_int, e_k_list_bool, e_k_list_str, e_k_list_list, e_k_list_tuple, e_k_list_dict, e_k_tuple_int, e_k_tuple_bool, e_k_tuple_str, e_k_tuple_list, e_k_tuple_tuple, e_k_tuple_dict, e_k_dict_int, e_k_dict_bool, e_k_dict_str, e_k_dict_list, e_k_dict_tuple, e_k_dict_dict, List.getElem?_cons_zero, List.getElem?_cons_succ, List.set_cons_zero, List.set_cons_succ, decide_true, decide_false, Bool.not_true, Bool.not_false, if_true, if_false, ite_true, ite_false, Bool.false_eq_true, true_and, and_true, truD, eq_self, Int.zero_add, e_objV hF4.1, Option.isSome_some]
    have hk3 : k < a3.length := hF3.put
    refine ⟨f, k, ls, ss, _, xs, l, rfl, hF4, vw_loc glast, hl, fits_small (by omega), ?_⟩
    rw [hcc, setB hk3]
    generalize hb3 : a3.set k (.lst ((ss ++ (xs.take c).map Stp.app).map encF)) = b
    have hbl : a3.length = b.length := by rw [← hb3, List.length_set]
    rw [hbl]
    subst hM1
    refine seqG fun M1 hM1 => ?_
    have v1 : vwL (b ++ [AO.lst (dI xs)]) (.loc b.length) = some (xs.map D.int) := vw_loc glast
    have v2 : vwL (b ++ [AO.lst (dI xs)]) (.lst (dI xs)) = some (xs.map D.int) := rfl
    simp only [e_var, e_C, e_op, e_un, e_test, e_tru, e_and, e_or, e_not, e_andV, e_orV, e_notV, e_if, e_nil, e_cons, e_lst, e_lstM, e_tup, e_N, e_R1, e_R2, e_call, e_meth, e_make, e_fld, e_bm, e_noPart, e_part, e_sl, e_yes, e_lc, e_seqI, e_goL, e_goScr, e_rng1, e_rng2, e_next, e_seq, e_set, e_asg, e_exp, e_ret, e_retN, e_sif, e_brk, e_cnt, e_sub, e_augsub, e_aug, e_sfld, e_augfld, e_for, e_chain, e_add, e_addI, e_addL, e_addT, e_addS, e_subI, e_mul, e_mulI, e_fdiv, e_mod, e_pow, e_shl, e_shr, e_band, e_bor, e_bxor, e_lt, e_le, e_gt, e_ge, e_neg, e_eqI, e_neI, e_eqS, e_neS, e_eqB, e_neB, e_eqNI, e_neNI, e_isNN, e_isIN, e_isSN, e_isBN, e_isTN, e_isLN, e_isON, e_isntNN, e_isntIN, e_isntSN, e_isntTN, e_isntLN, e_isntON, e_min2, e_max2, e_int1, e_int1b, e_lenL, e_lenT, e_lenKT, e_lenS, e_lenScr, e_listL, e_listT, e_outT, e_outF, e_slL, e_slT, e_ixL, e_ixT, e_ixKT, e_ixScr, e_isi1, e_isi2, e_tyN, e_tyB, e_tyI, e_tyS, e_tyL, e_tyT, e_tyKT, e_k_NoneType_int, e_k_NoneType_bool, e_k_NoneType_str, e_k_NoneType_list, e_k_NoneType_tuple, e_k_NoneType_dict, e_k_bool_int, e_k_bool_bool, e_k_bool_str, e_k_bool_list, e_k_bool_tuple, e_k_bool_dict, e_k_int_int, e_k_int_bool, e_k_int_str, e_k_int_list, e_k_int_tuple, e_k_int_dict, e_k_str_int, e_k_str_bool, e_k_str_str, e_k_str_list, e_k_str_tuple, e_k_str_dict, e_k_list_int, e_k_list_bool, e_k_list_str, e_k_list_list, e_k_list_tuple, e_k_list_dict, e_k_tuple_int, e_k_tuple_bool, e_k_tuple_str, e_k_tuple_list, e_k_tuple_tuple, e_k_tuple_dict, e_k_dict_int, e_k_dict_bool, e_k_dict_str, e_k_dict_list, e_k_dict_tuple, e_k_dict_dict, List.getElem?_cons_zero, List.getElem?_cons_succ, List.set_cons_zero, List.set_cons_succ, decide_true, decide_false, Bool.not_true, Bool.not_false, if_true, if_false, ite_true, ite_false, Bool.false_eq_true, true_and, and_true, truD, eq_self, Int.zero_add, e_neV v1 v2]
    subst hM1
    refine seqG fun M1 hM1 => ?_
    have gl1 : (b ++ [AO.lst (dI xs)])[b.length]? = some (.lst (dI xs)) := glast
    simp only [e_var, e_C, e_op, e_un, e_test, e_tru, e_and, e_or, e_not, e_andV, e_orV, e_notV, e_if, e_nil, e_cons, e_lst, e_lstM, e_tup, e_N, e_R1, e_R2, e_call, e_meth, e_make, e_fld, e_bm, e_noPart, e_part, e_sl, e_yes, e_lc, e_seqI, e_goL, e_goScr, e_rng1, e_rng2, e_next, e_seq, e_set, e_asg, e_exp, e_ret, e_retN, e_sif, e_brk, e_cnt, e_sub, e_augsub, e_aug, e_sfld, e_augfld, e_for, e_chain, e_add, e_addI, e_addL, e_addT, e_addS, e_subI, e_mul, e_mulI, e_fdiv, e_mod, e_pow, e_shl, e_shr, e_band, e_bor, e_bxor, e_lt, e_le, e_gt, e_ge, e_neg, e_eqI, e_neI, e_eqS, e_neS, e_eqB, e_neB, e_eqNI, e_neNI, e_isNN, e_isIN, e_isSN, e_isBN, e_isTN, e_isLN, e_isON, e_isntNN, e_isntIN, e_isntSN, e_isntTN, e_isntLN, e_isntON, e_min2, e_max2, e_int1, e_int1b, e_lenL, e_lenT, e_lenKT, e_lenS, e_lenScr, e_listL, e_listT, e_outT, e_outF, e_slL, e_slT, e_ixL, e_ixT, e_ixKT, e_ixScr, e_isi1, e_isi2, e_tyN, e_tyB, e_tyI, e_tyS, e_tyL, e_tyT, e_tyKT, e_k_NoneType_int, e_k_NoneType_bool, e_k_NoneType_str, e_k_NoneType_list, e_k_NoneType_tuple, e_k_NoneType_dict, e_k_bool_int, e_k_bool_bool, e_k_bool_str, e_k_bool_list, e_k_bool_tuple, e_k_bool_dict, e_k_int_int, e_k_int_bool, e_k_int_str, e_k_int_list, e_k_int_tuple, e_k_int_dict, e_k_str_int, e_k_str_bool, e_k_str_str, e_k_str_list, e_k_str_tuple, e_k_str_dict, e_k_list_int, e_k_list_bool, e_k_list_str, e_k_list_list, e_k_list_tuple, e_k_list_dict, e_k_tuple_int, e_k_tuple_bool, e_k_tuple_str, e_k_tuple_list, e_k_tuple_tuple, e_k_tuple_dict, e_k_dict_int, e_k_dict_bool, e_k_dict_str, e_k_dict_list, e_k_dict_tuple, e_k_dict_dict, List.getElem?_cons_zero, List.getElem?_cons_succ, List.set_cons_zero, List.set_cons_succ, decide_true, decide_false, Bool.not_true, Bool.not_false, if_true, if_false, ite_true, ite_false, Bool.false_eq_true, true_and, and_true, truD, eq_self, Int.zero_add, e_isL gl1, e_insert gl1, dI_len, slast]
    refine ⟨fits_small (by omega), by decide, by decide, ?_⟩
    subst hM1
    refine seqG fun M1 hM1 => ?_
    generalize hys : List.take (Int.toNat 0) (dI xs) ++ [D.int 9] ++ List.drop (Int.toNat 0) (dI xs) = ys
    have hyl : ys.length = xs.length + 1 := by rw [← hys]; simp [dI_len]
    have gl2 : (b ++ [AO.lst ys])[b.length]? = some (.lst ys) := glast
    simp only [e_var, e_C, e_op, e_un, e_test, e_tru, e_and, e_or, e_not, e_andV, e_orV, e_notV, e_if, e_nil, e_cons, e_lst, e_lstM, e_tup, e_N, e_R1, e_R2, e_call, e_meth, e_make, e_fld, e_bm, e_noPart, e_part, e_sl, e_yes, e_lc, e_seqI, e_goL, e_goScr, e_rng1, e_rng2, e_next, e_seq, e_set, e_asg, e_exp, e_ret, e_retN, e_sif, e_brk, e_cnt, e_sub, e_augsub, e_aug, e_sfld, e_augfld, e_for, e_chain, e_add, e_addI, e_addL, e_addT, e_addS, e_subI, e_mul, e_mulI, e_fdiv, e_mod, e_pow, e_shl, e_shr, e_band, e_bor, e_bxor, e_lt, e_le, e_gt, e_ge, e_neg, e_eqI, e_neI, e_eqS, e_neS, e_eqB, e_neB, e_eqNI, e_neNI, e_isNN, e_isIN, e_isSN, e_isBN, e_isTN, e_isLN, e_isON, e_isntNN, e_isntIN, e_isntSN, e_isntTN, e_isntLN, e_isntON, e_min2, e_max2, e_int1, e_int1b, e_lenL, e_lenT, e_lenKT, e_lenS, e_lenScr, e_listL, e_listT, e_outT, e_outF, e_slL, e_slT, e_ixL, e_ixT, e_ixKT, e_ixScr, e_isi1, e_isi2, e_tyN, e_tyB, e_tyI, e_tyS, e_tyL, e_tyT, e_tyKT, e_k_NoneType_int, e_k_NoneType_bool, e_k_NoneType_str, e_k_NoneType_list, e_k_NoneType_tuple, e_k_NoneType_dict, e_k_bool_int, e_k_bool_bool, e_k_bool_str, e_k_bool_list, e_k_bool_tuple, e_k_bool_dict, e_k_int_int, e_k_int_bool, e_k_int_str, e_k_int_list, e_k_int_tuple, e_k_int_dict, e_k_str_int, e_k_str_bool, e_k_str_str, e_k_str_list, e_k_str_tuple, e_k_str_dict, e_k_list_int, e_k_list_bool, e_k_list_str, e_k_list_list, e_k_list_tuple, e_k_list_dict, e_k_tuple_int, e_k_tuple_bool, e_k_tuple_str, e_k_tuple_list, e_k_tuple_tuple, e_k_tuple_dict, e_k_dict_int, e_k_dict_bool, e_k_dict_str, e_k_dict_list, e_k_dict_tuple, e_k_dict_dict, List.getElem?_cons_zero, List.getElem?_cons_succ, List.set_cons_zero, List.set_cons_succ, decide_true, decide_false, Bool.not_true, Bool.not_false, if_true, if_false, ite_true, ite_false, Bool.false_eq_true, true_and, and_true, truD, eq_self, Int.zero_add, e_isL gl2, e_append gl2, slast]
    refine ⟨fits_small (by omega), ?_⟩
    subst hM1
    simp only [e_var, e_C, e_op, e_un, e_test, e_tru, e_and, e_or, e_not, e_andV, e_orV, e_notV, e_if, e_nil, e_cons, e_lst, e_lstM, e_tup, e_N, e_R1, e_R2, e_call, e_meth, e_make, e_fld, e_bm, e_noPart, e_part, e_sl, e_yes, e_lc, e_seqI, e_goL, e_goScr, e_rng1, e_rng2, e_next, e_seq, e_set, e_asg, e_exp, e_ret, e_retN, e_sif, e_brk, e_cnt, e_sub, e_augsub, e_aug, e_sfld, e_augfld, e_for, e_chain, e_add, e_addI, e_addL, e_addT, e_addS, e_subI, e_mul, e_mulI, e_fdiv, e_mod, e_pow, e_shl, e_shr, e_band, e_bor, e_bxor, e_lt, e_le, e_gt, e_ge, e_neg, e_eqI, e_neI, e_eqS, e_neS, e_eqB, e_neB, e_eqNI, e_neNI, e_isNN, e_isIN, e_isSN, e_isBN, e_isTN, e_isLN, e_isON, e_isntNN, e_isntIN, e_isntSN, e_isntTN, e_isntLN, e_isntON, e_min2, e_max2, e_int1, e_int1b, e_lenL, e_lenT, e_lenKT, e_lenS, e_lenScr, e_listL, e_listT, e_outT, e_outF, e_slL, e_slT, e_ixL, e_ixT, e_ixKT, e_ixScr, e_isi1, e_isi2, e_tyN, e_tyB, e_tyI, e_tyS, e_tyL, e_tyT, e_tyKT, e_k_NoneType_int, e_k_NoneType_bool, e_k_NoneType_str, e_k_NoneType_list, e_k_NoneType_tuple, e_k_NoneType_dict, e_k_bool_int, e_k_bool_bool, e_k_bool_str, e_k_bool_list, e_k_bool_tuple, e_k_bool_dict, e_k_int_int, e_k_int_bool, e_k_int_str, e_k_int_list, e_k_int_tuple, e_k_int_dict, e_k_str_int, e_k_str_bool, e_k_str_str, e_k_str_list, e_k_str_tuple, e_k_str_dict, e_k_list_int, e_k_list_bool, e_k_list_str, e_k_list_list, e_k_list_tuple, e_k_list_dict, e_k_tuple_int, e_k_tuple_bool, e_k_tuple_str, e_k_tuple_list, e_k_tuple_tuple, e_k_tuple_dict, e_k_dict_int, e_k_dict_bool, e_k_dict_str, e_k_dict_list, e_k_dict_tuple, e_k_dict_dict, List.getElem?_cons_zero, List.getElem?_cons_succ, List.set_cons_zero, List.set_cons_succ, decide_true, decide_false, Bool.not_true, Bool.not_false, if_true, if_false, ite_true, ite_false, Bool.false_eq_true, true_and, and_true, truD, eq_self, Int.zero_add, dI_len]
    refine .inl ⟨c, rfl, ?_⟩
    refine ⟨fits_small (by omega), ?_⟩
    simp only [cut_take (Int.natCast_nonneg c), Int.toNat_natCast]
    refine lcW_map (fun d => .tup [.int 0, d]) True.intro (fun d _ _ M h => ⟨_, rfl, ?_⟩) yes_mono (fits_small (by rw [List.length_take, dI_len, List.length_nil]; omega)) ?_
    · simp only [e_var, e_C, e_op, e_un, e_test, e_tru, e_and, e_or, e_not, e_andV, e_orV, e_notV, e_if, e_nil, e_cons, e_lst, e_lstM, e_tup, e_N, e_R1, e_R2, e_call, e_meth, e_make, e_fld, e_bm, e_noPart, e_part, e_sl, e_yes, e_lc, e_seqI, e_goL, e_goScr, e_rng1, e_rng2, e_next, e_seq, e_set, e_asg, e_exp, e_ret, e_retN, e_sif, e_brk, e_cnt, e_sub, e_augsub, e_aug, e_sfld, e_augfld, e_for, e_chain, e_add, e_addI, e_addL, e_addT, e_addS, e_subI, e_mul, e_mulI, e_fdiv, e_mod, e_pow, e_shl, e_shr, e_band, e_bor, e_bxor, e_lt, e_le, e_gt, e_ge, e_neg, e_eqI, e_neI, e_eqS, e_neS, e_eqB, e_neB, e_eqNI, e_neNI, e_isNN, e_isIN, e_isSN, e_isBN, e_isTN, e_isLN, e_isON, e_isntNN, e_isntIN, e_isntSN, e_isntTN, e_isntLN, e_isntON, e_min2, e_max2, e_int1, e_int1b, e_lenL, e_lenT, e_lenKT, e_lenS, e_lenScr, e_listL, e_listT, e_outT, e_outF, e_slL, e_slT, e_ixL, e_ixT, e_ixKT, e_ixScr, e_isi1, e_isi2, e_tyN, e_tyB, e_tyI, e_tyS, e_tyL, e_tyT, e_tyKT, e_k_NoneType_int, e_k_NoneType_bool, e_k_NoneType_str, e_k_NoneType_list, e_k_NoneType_tuple, e_k_NoneType_dict, e_k_bool_int, e_k_bool_bool, e_k_bool_str, e_k_bool_list, e_k_bool_tuple, e_k_bool_dict, e_k_int_int, e_k_int_bool, e_k_int_str, e_k_int_list, e_k_int_tuple, e_k_int_dict, e_k_str_int, e_k_str_bool, e_k_str_str, e_k_str_list, e_k_str_tuple, e_k_str_dict, e_k_list_int, e_k_list_bool, e_k_list_str, e_k_list_list, e_k_list_tuple, e_k_list_dict, e_k_tuple_int, e_k_tuple_bool, e_k_tuple_str, e_k_tuple_list, e_k_tuple_tuple, e_k_tuple_dict, e_k_dict_int, e_k_dict_bool, e_k_dict_str, e_k_dict_list, e_k_dict_tuple, e_k_dict_dict, List.getElem?_cons_zero, List.getElem?_cons_succ, List.set_cons_zero, List.set_cons_succ, decide_true, decide_false, Bool.not_true, Bool.not_false, if_true, if_false, ite_true, ite_false, Bool.false_eq_true, true_and, and_true, truD, eq_self, Int.zero_add, wipeD]
      exact ⟨fits_small (by simp), h⟩
    have e1 : ((dI xs).take c).map (fun d => D.tup [.int 0, d]) = ((xs.take c).map Stp.app).map encL := by
      unfold dI
      rw [← List.map_take, List.map_map, List.map_map]
      rfl
    have hlen : (((xs.take c).map Stp.app).map encL).length ≤ 60 := by
      rw [List.length_map, List.length_map, List.length_take]; omega
    rw [List.nil_append, e1]
    refine ⟨fits_small (by omega), ?_⟩
    refine ⟨fits_small (by rw [List.length_map]; omega), fits_small (by simp), ?_⟩
    rw [← List.map_append, ← hb3]
    exact deed_more n3 hn hF hnf hnk (by rw [List.length_map, List.length_take]; omega) hc (fun s h => by obtain ⟨x, _, rfl⟩ := List.mem_map.1 h; exact True.intro) q
  · simp only [c1, e_var, e_C, e_op, e_un, e_test, e_tru, e_and, e_or, e_not, e_andV, e_orV, e_notV, e_if, e_nil, e_cons, e_lst, e_lstM, e_tup, e_N, e_R1, e_R2, e_call, e_meth, e_make, e_fld, e_bm, e_noPart, e_part, e_sl, e_yes, e_lc, e_seqI, e_goL, e_goScr, e_rng1, e_rng2, e_next, e_seq, e_set, e_asg, e_exp, e_ret, e_retN, e_sif, e_brk, e_cnt, e_sub, e_augsub, e_aug, e_sfld, e_augfld, e_for, e_chain, e_add, e_addI, e_addL, e_addT, e_addS, e_subI, e_mul, e_mulI, e_fdiv, e_mod, e_pow, e_shl, e_shr, e_band, e_bor, e_bxor, e_lt, e_le, e_gt, e_ge, e_neg, e_eqI, e_neI, e_eqS, e_neS, e_eqB, e_neB, e_eqNI, e_neNI, e_isNN, e_isIN, e_isSN, e_isBN, e_isTN, e_isLN, e_isON, e_isntNN, e_isntIN, e_isntSN, e_isntTN, e_isntLN, e_isntON, e_min2, e_max2, e_int1, e_int1b, e_lenL, e_lenT, e_lenKT, e_lenS, e_lenScr, e_listL, e_listT, e_outT, e_outF, e_slL, e_slT, e_ixL, e_ixT, e_ixKT, e_ixScr, e_isi1, e_isi2, e_tyN, e_tyB, e_tyI, e_tyS, e_tyL, e_tyT, e_tyKT, e_k_NoneType_int, e_k_NoneType_bool, e_k_NoneType_str, e_k_NoneType_list, e_k_NoneType_tuple, e_k_NoneType_dict, e_k_bool_int, e_k_bool_bool, e_k_bool_str, e_k_bool_list, e_k_bool_tuple, e_k_bool_dict, e_k_int_int, e_k_int_bool, e_k_int_str, e_k_int_list, e_k_int_tuple, e_k_int_dict, e_k_str_int, e_k_str_bool, e_k_str_str, e_k_str_list, e_k_str_tuple, e_k_str_dict, e_k_list_int, e_k_list_bool, e_k_list_str, e_k_list_list, e_k_list_tuple, e_k_list_dict, e_k_tuple_int, e_k_tuple_bool, e_k_tuple_str, e_k_tuple_list, e_k_tuple_tuple, e_k_tuple_dict, e_k_dict_int, e_k_dict_bool, e_k_dict_str, e_k_dict_list, e_k_dict_tuple, e_k_dict_dict, List.getElem?_cons_zero, List.getElem?_cons_succ, List.set_cons_zero, List.set_cons_succ, decide_true, decide_false, Bool.not_true, Bool.not_false, if_true, if_false, ite_true, ite_false, Bool.false_eq_true, true_and, and_true, truD, eq_self, Int.zero_add]
    subst hF'
    simp only [e_var, e_C, e_op, e_un, e_test, e_tru, e_and, e_or, e_not, e_andV, e_orV, e_notV, e_if, e_nil, e_cons, e_lst, e_lstM, e_tup, e_N, e_R1, e_R2, e_call, e_meth, e_make, e_fld, e_bm, e_noPart, e_part, e_sl, e_yes, e_lc, e_seqI, e_goL, e_goScr, e_rng1, e_rng2, e_next, e_seq, e_set, e_asg, e_exp, e_ret, e_retN, e_sif, e_brk, e_cnt, e_sub, e_augsub, e_aug, e_sfld, e_augfld, e_for, e_chain, e_add, e_addI, e_addL, e_addT, e_addS, e_subI, e_mul, e_mulI, e_fdiv, e_mod, e_pow, e_shl, e_shr, e_band, e_bor, e_bxor, e_lt, e_le, e_gt, e_ge, e_neg, e_eqI, e_neI, e_eqS, e_neS, e_eqB, e_neB, e_eqNI, e_neNI, e_isNN, e_isIN, e_isSN, e_isBN, e_isTN, e_isLN, e_isON, e_isntNN, e_isntIN, e_isntSN, e_isntTN, e_isntLN, e_isntON, e_min2, e_max2, e_int1, e_int1b, e_lenL, e_lenT, e_lenKT, e_lenS, e_lenScr, e_listL, e_listT, e_outT, e_outF, e_slL, e_slT, e_ixL, e_ixT, e_ixKT, e_ixScr, e_isi1, e_isi2, e_tyN, e_tyB, e_tyI, e_tyS, e_tyL, e_tyT, e_tyKT, e_k_NoneType_int, e_k_NoneType_bool, e_k_NoneType_str, e_k_NoneType_list, e_k_NoneType_tuple, e_k_NoneType_dict, e_k_bool_int, e_k_bool_bool, e_k_bool_str, e_k_bool_list, e_k_bool_tuple, e_k_bool_dict, e_k_int_int, e_k_int_bool, e_k_int_str, e_k_int_list, e_k_int_tuple, e_k_int_dict, e_k_str_int, e_k_str_bool, e_k_str_str, e_k_str_list, e_k_str_tuple, e_k_str_dict, e_k_list_int, e_k_list_bool, e_k_list_str, e_k_list_list, e_k_list_tuple, e_k_list_dict, e_k_tuple_int, e_k_tuple_bool, e_k_tuple_str, e_k_tuple_list, e_k_tuple_tuple, e_k_tuple_dict, e_k_dict_int, e_k_dict_bool, e_k_dict_str, e_k_dict_list, e_k_dict_tuple, e_k_dict_dict, List.getElem?_cons_zero, List.getElem?_cons_succ, List.set_cons_zero, List.set_cons_succ, decide_true, decide_false, Bool.not_true, Bool.not_false, if_true, if_false, ite_true, ite_false, Bool.false_eq_true, true_and, and_true, truD, eq_self, Int.zero_add]
    subst hM
    refine seqG fun M hM => ?_
    refine ifG fun T F hT hF' => ?_
    simp only [e_var, e_C, e_op, e_un, e_test, e_tru, e_and, e_or, e_not, e_andV, e_orV, e_notV, e_if, e_nil, e_cons, e_lst, e_lstM, e_tup, e_N, e_R1, e_R2, e_call, e_meth, e_make, e_fld, e_bm, e_noPart, e_part, e_sl, e_yes, e_lc, e_seqI, e_goL, e_goScr, e_rng1, e_rng2, e_next, e_seq, e_set, e_asg, e_exp, e_ret, e_retN, e_sif, e_brk, e_cnt, e_sub, e_augsub, e_aug, e_sfld, e_augfld, e_for, e_chain, e_add, e_addI, e_addL, e_addT, e_addS, e_subI, e_mul, e_mulI, e_fdiv, e_mod, e_pow, e_shl, e_shr, e_band, e_bor, e_bxor, e_lt, e_le, e_gt, e_ge, e_neg, e_eqI, e_neI, e_eqS, e_neS, e_eqB, e_neB, e_eqNI, e_neNI, e_isNN, e_isIN, e_isSN, e_isBN, e_isTN, e_isLN, e_isON, e_isntNN, e_isntIN, e_isntSN, e_isntTN, e_isntLN, e_isntON, e_min2, e_max2, e_int1, e_int1b, e_lenL, e_lenT, e_lenKT, e_lenS, e_lenScr, e_listL, e_listT, e_outT, e_outF, e_slL, e_slT, e_ixL, e_ixT, e_ixKT, e_ixScr, e_isi1, e_isi2, e_tyN, e_tyB, e_tyI, e_tyS, e_tyL, e_tyT, e_tyKT, e_k_NoneType_int, e_k_NoneType_bool, e_k_NoneType_str, e_k_NoneType_list, e_k_NoneType_tuple, e_k_NoneType_dict, e_k_bool_int, e_k_bool_bool, e_k_bool_str, e_k_bool_list, e_k_bool_tuple, e_k_bool_dict, e_k_int_int, e_k_int_bool, e_k_int_str, e_k_int_list, e_k_int_tuple, e_k_int_dict, e_k_str_int, e_k_str_bool, e_k_str_str, e_k_str_list, e_k_str_tuple, e_k_str_dict, e_k_list_int, e_k_list_bool, e_k_list_str, e_k_list_list, e_k_list_tuple, e_k_list_dict, e_k_tuple_int, e_k_tuple_bool, e_k_tuple_str, e_k_tuple_list, e_k_tuple_tuple, e_k_tuple_dict, e_k_dict_int, e_k_dict_bool, e_k_dict_str, e_k_dict_list, e_k_dict_tuple, e_k_dict_dict, List.getElem?_cons_zero, List.getElem?_cons_succ, List.set_cons_zero, List.set_cons_succ, decide_true, decide_false, Bool.not_true, Bool.not_false, if_true, if_false, ite_true, ite_false, Bool.false_eq_true, true_and, and_true, truD, eq_self, Int.zero_add]
    by_cases c2 : pick < 5
    · simp only [c2, e_var, e_C, e_op, e_un, e_test, e_tru, e_and, e_or, e_not, e_andV, e_orV, e_notV, e_if, e_nil, e_cons, e_lst, e_lstM, e_tup, e_N, e_R1, e_R2, e_call, e_meth, e_make, e_fld, e_bm, e_noPart, e_part, e_sl, e_yes, e_lc, e_seqI, e_goL, e_goScr, e_rng1, e_rng2, e_next, e_seq, e_set, e_asg, e_exp, e_ret, e_retN, e_sif, e_brk, e_cnt, e_sub, e_augsub, e_aug, e_sfld, e_augfld, e_for, e_chain, e_add, e_addI, e_addL, e_addT, e_addS, e_subI, e_mul, e_mulI, e_fdiv, e_mod, e_pow, e_shl, e_shr, e_band, e_bor, e_bxor, e_lt, e_le, e_gt, e_ge, e_neg, e_eqI, e_neI, e_eqS, e_neS, e_eqB, e_neB, e_eqNI, e_neNI, e_isNN, e_isIN, e_isSN, e_isBN, e_isTN, e_isLN, e_isON, e_isntNN, e_isntIN, e_isntSN, e_isntTN, e_isntLN, e_isntON, e_min2, e_max2, e_int1, e_int1b, e_lenL, e_lenT, e_lenKT, e_lenS, e_lenScr, e_listL, e_listT, e_outT, e_outF, e_slL, e_slT, e_ixL, e_ixT, e_ixKT, e_ixScr, e_isi1, e_isi2, e_tyN, e_tyB, e_tyI, e_tyS, e_tyL, e_tyT, e_tyKT, e_k_NoneType_int, e_k_NoneType_bool, e_k_NoneType_str, e_k_NoneType_list, e_k_NoneType_tuple, e_k_NoneType_dict, e_k_bool_int, e_k_bool_bool, e_k_bool_str, e_k_bool_list, e_k_bool_tuple, e_k_bool_dict, e_k_int_int, e_k_int_bool, e_k_int_str, e_k_int_list, e_k_int_tuple, e_k_int_dict, e_k_str_int, e_k_str_bool, e_k_str_str, e_k_str_list, e_k_str_tuple, e_k_str_dict, e_k_list_int, e_k_list_bool, e_k_list_str, e_k_list_list, e_k_list_tuple, e_k_list_dict, e_k_tuple_int, e_k_tuple_bool, e_k_tuple_str, e_k_tuple_list, e_k_tuple_tuple, e_k_tuple_dict, e_k_dict_int, e_k_dict_bool, e_k_dict_str, e_k_dict_list, e_k_dict_tuple, e_k_dict_dict, List.getElem?_cons_zero, List.getElem?_cons_succ, List.set_cons_zero, List.set_cons_succ, decide_true, decide_false, Bool.not_true, Bool.not_false, if_true, if_false, ite_true, ite_false, Bool.false_eq_true, true_and, and_true, truD, eq_self, Int.zero_add]
      subst hT
      refine seqG fun M1 hM1 => ?_
      simp only [e_var, e_C, e_op, e_un, e_test, e_tru, e_and, e_or, e_not, e_andV, e_orV, e_notV, e_if, e_nil, e_cons, e_lst, e_lstM, e_tup, e_N, e_R1, e_R2, e_call, e_meth, e_make, e_fld, e_bm, e_noPart, e_part, e_sl, e_yes, e_lc, e_seqI, e_goL, e_goScr, e_rng1, e_rng2, e_next, e_seq, e_set, e_asg, e_exp, e_ret, e_retN, e_sif, e_brk, e_cnt, e_sub, e_augsub, e_aug, e_sfld, e_augfld, e_for, e_chain, e_add, e_addI, e_addL, e_addT, e_addS, e_subI, e_mul, e_mulI, e_fdiv, e_mod, e_pow, e_shl, e_shr, e_band, e_bor, e_bxor, e_lt, e_le, e_gt, e_ge, e_neg, e_eqI, e_neI, e_eqS, e_neS, e_eqB, e_neB, e_eqNI, e_neNI, e_isNN, e_isIN, e_isSN, e_isBN, e_isTN, e_isLN, e_isON, e_isntNN, e_isntIN, e_isntSN, e_isntTN, e_isntLN, e_isntON, e_min2, e_max2, e_int1, e_int1b, e_lenL, e_lenT, e_lenKT, e_lenS, e_lenScr, e_listL, e_listT, e_outT, e_outF, e_slL, e_slT, e_ixL, e_ixT, e_ixKT, e_ixScr, e_isi1, e_isi2, e_tyN, e_tyB, e_tyI, e_tyS, e_tyL, e_tyT, e_tyKT, e_k_NoneType_int, e_k_NoneType_bool, e_k_NoneType_str, e_k_NoneType_list, e_k_NoneType_tuple, e_k_NoneType_dict, e_k_bool_int, e_k_bool_bool, e_k_bool_str, e_k_bool_list, e_k_bool_tuple, e_k_bool_dict, e_k_int_int, e_k_int_bool, e_k_int_str, e_k_int_list, e_k_int_tuple, e_k_int_dict, e_k_str_int, e_k_str_bool, e_k_str_str, e_k_str_list, e_k_str_tuple, e_k_str_dict, e_k_list_int, e_k_list_bool, e_k_list_str, e_k_list_list, e_k_list_tuple, e_k_list_dict, e_k_tuple_int, e_k_tuple_bool, e_k_tuple_str, e_k_tuple_list, e_k_tuple_tuple, e_k_tuple_dict, e_k_dict_int, e_k_dict_bool, e_k_dict_str, e_k_dict_list, e_k_dict_tuple, e_k_dict_dict, List.getElem?_cons_zero, List.getElem?_cons_succ, List.set_cons_zero, List.set_cons_succ, decide_true, decide_false, Bool.not_true, Bool.not_false, if_true, if_false, ite_true, ite_false, Bool.false_eq_true, true_and, and_true, truD, eq_self, Int.zero_add]
      refine ⟨ls, ss, rfl, fits_small (by omega), ?_⟩
      simp only [e_var, e_C, e_op, e_un, e_test, e_tru, e_and, e_or, e_not, e_andV, e_orV, e_notV, e_if, e_nil, e_cons, e_lst, e_lstM, e_tup, e_N, e_R1, e_R2, e_call, e_meth, e_make, e_fld, e_bm, e_noPart, e_part, e_sl, e_yes, e_lc, e_seqI, e_goL, e_goScr, e_rng1, e_rng2, e_next, e_seq, e_set, e_asg, e_exp, e_ret, e_retN, e_sif, e_brk, e_cnt, e_sub, e_augsub, e_aug, e_sfld, e_augfld, e_for, e_chain, e_add, e_addI, e_addL, e_addT, e_addS, e_subI, e_mul, e_mulI, e_fdiv, e_mod, e_pow, e_shl, e_shr, e_band, e_bor, e_bxor, e_lt, e_le, e_gt, e_ge, e_neg, e_eqI, e_neI, e_eqS, e_neS, e_eqB, e_neB, e_eqNI, e_neNI, e_isNN, e_isIN, e_isSN, e_isBN, e_isTN, e_isLN, e_isON, e_isntNN, e_isntIN, e_isntSN, e_isntTN, e_isntLN, e_isntON, e_min2, e_max2, e_int1, e_int1b, e_lenL, e_lenT, e_lenKT, e_lenS, e_lenScr, e_listL, e_listT, e_outT, e_outF, e_slL, e_slT, e_ixL, e_ixT, e_ixKT, e_ixScr, e_isi1, e_isi2, e_tyN, e_tyB, e_tyI, e_tyS, e_tyL, e_tyT, e_tyKT, e_k_NoneType_int, e_k_NoneType_bool, e_k_NoneType_str, e_k_NoneType_list, e_k_NoneType_tuple, e_k_NoneType_dict, e_k_bool_int, e_k_bool_bool, e_k_bool_str, e_k_bool_list, e_k_bool_tuple, e_k_bool_dict, e_k_int_int, e_k_int_bool, e_k_int_str, e_k_int_list, e_k_int_tuple, e_k_int_dict, e_k_str_int, e_k_str_bool, e_k_str_str, e_k_str_list, e_k_str_tuple, e_k_str_dict, e_k_list_int, e_k_list_bool, e_k_list_str, e_k_list_list, e_k_list_tuple, e_k_list_dict, e_k_tuple_int, e_k_tuple_bool, e_k_tuple_str, e_k_tuple_list, e_k_tuple_tuple, e_k_tuple_dict, e_k_dict_int, e_k_dict_bool, e_k_dict_str, e_k_dict_list, e_k_dict_tuple, e_k_dict_dict, List.getElem?_cons_zero, List.getElem?_cons_succ, List.set_cons_zero, List.set_cons_succ, decide_true, decide_false, Bool.not_true, Bool.not_false, if_true, if_false, ite_true, ite_false, Bool.false_eq_true, true_and, and_true, truD, eq_self, Int.zero_add]
      refine nxt n2 hn (by omega) fun z a3 z0 _ n3 => ?_
      have hF3 := n3.file hnf hnk hF
      subst hM1
      refine seqG fun M1 hM1 => ?_
      simp only [e_var, e_C, e_op, e_un, e_test, e_tru, e_and, e_or, e_not, e_andV, e_orV, e_notV, e_if, e_nil, e_cons, e_lst, e_lstM, e_tup, e_N, e_R1, e_R2, e_call, e_meth, e_make, e_fld, e_bm, e_noPart, e_part, e_sl, e_yes, e_lc, e_seqI, e_goL, e_goScr, e_rng1, e_rng2, e_next, e_seq, e_set, e_asg, e_exp, e_ret, e_retN, e_sif, e_brk, e_cnt, e_sub, e_augsub, e_aug, e_sfld, e_augfld, e_for, e_chain, e_add, e_addI, e_addL, e_addT, e_addS, e_subI, e_mul, e_mulI, e_fdiv, e_mod, e_pow, e_shl, e_shr, e_band, e_bor, e_bxor, e_lt, e_le, e_gt, e_ge, e_neg, e_eqI, e_neI, e_eqS, e_neS, e_eqB, e_neB, e_eqNI, e_neNI, e_isNN, e_isIN, e_isSN, e_isBN, e_isTN, e_isLN, e_isON, e_isntNN, e_isntIN, e_isntSN, e_isntTN, e_isntLN, e_isntON, e_min2, e_max2, e_int1, e_int1b, e_lenL, e_lenT, e_lenKT, e_lenS, e_lenScr, e_listL, e_listT, e_outT, e_outF, e_slL, e_slT, e_ixL, e_ixT, e_ixKT, e_ixScr, e_isi1, e_isi2, e_tyN, e_tyB, e_tyI, e_tyS, e_tyL, e_tyT, e_tyKT, e_k_NoneType_int, e_k_NoneType_bool, e_k_NoneType_str, e_k_NoneType_list, e_k_NoneType_tuple, e_k_NoneType_dict, e_k_bool_int, e_k_bool_bool, e_k_bool_str, e_k_bool_list, e_k_bool_tuple, e_k_bool_dict, e_k_int_int, e_k_int_bool, e_k_int_str, e_k_int_list, e_k_int_tuple, e_k_int_dict, e_k_str_int, e_k_str_bool, e_k_str_str, e_k_str_list, e_k_str_tuple, e_k_str_dict, e_k_list_int, e_k_list_bool, e_k_list_str, e_k_list_list, e_k_list_tuple, e_k_list_dict, e_k_tuple_int, e_k_tuple_bool, e_k_tuple_str, e_k_tuple_list, e_k_tuple_tuple, e_k_tuple_dict, e_k_dict_int, e_k_dict_bool, e_k_dict_str, e_k_dict_list, e_k_dict_tuple, e_k_dict_dict, List.getElem?_cons_zero, List.getElem?_cons_succ, List.set_cons_zero, List.set_cons_succ, decide_true, decide_false, Bool.not_true, Bool.not_false, if_true, if_false, ite_true, ite_false, Bool.false_eq_true, true_and, and_true, truD, eq_self, Int.zero_add, e_objV hF3.1, Option.isSome_some]
      refine ⟨f, k, ls, ss, z, l, rfl, hF3, hl, fits_small (by omega), fun h0 => ?_, fun h0 => ?_⟩
      · subst h0
        subst hM1
        refine seqG fun M1 hM1 => ?_
        simp only [e_var, e_C, e_op, e_un, e_test, e_tru, e_and, e_or, e_not, e_andV, e_orV, e_notV, e_if, e_nil, e_cons, e_lst, e_lstM, e_tup, e_N, e_R1, e_R2, e_call, e_meth, e_make, e_fld, e_bm, e_noPart, e_part, e_sl, e_yes, e_lc, e_seqI, e_goL, e_goScr, e_rng1, e_rng2, e_next, e_seq, e_set, e_asg, e_exp, e_ret, e_retN, e_sif, e_brk, e_cnt, e_sub, e_augsub, e_aug, e_sfld, e_augfld, e_for, e_chain, e_add, e_addI, e_addL, e_addT, e_addS, e_subI, e_mul, e_mulI, e_fdiv, e_mod, e_pow, e_shl, e_shr, e_band, e_bor, e_bxor, e_lt, e_le, e_gt, e_ge, e_neg, e_eqI, e_neI, e_eqS, e_neS, e_eqB, e_neB, e_eqNI, e_neNI, e_isNN, e_isIN, e_isSN, e_isBN, e_isTN, e_isLN, e_isON, e_isntNN, e_isntIN, e_isntSN, e_isntTN, e_isntLN, e_isntON, e_min2, e_max2, e_int1, e_int1b, e_lenL, e_lenT, e_lenKT, e_lenS, e_lenScr, e_listL, e_listT, e_outT, e_outF, e_slL, e_slT, e_ixL, e_ixT, e_ixKT, e_ixScr, e_isi1, e_isi2, e_tyN, e_tyB, e_tyI, e_tyS, e_tyL, e_tyT, e_tyKT, e_k_NoneType_int, e_k_NoneType_bool, e_k_NoneType_str, e_k_NoneType_list, e_k_NoneType_tuple, e_k_NoneType_dict, e_k_bool_int, e_k_bool_bool, e_k_bool_str, e_k_bool_list, e_k_bool_tuple, e_k_bool_dict, e_k_int_int, e_k_int_bool, e_k_int_str, e_k_int_list, e_k_int_tuple, e_k_int_dict, e_k_str_int, e_k_str_bool, e_k_str_str, e_k_str_list, e_k_str_tuple, e_k_str_dict, e_k_list_int, e_k_list_bool, e_k_list_str, e_k_list_list, e_k_list_tuple, e_k_list_dict, e_k_tuple_int, e_k_tuple_bool, e_k_tuple_str, e_k_tuple_list, e_k_tuple_tuple, e_k_tuple_dict, e_k_dict_int, e_k_dict_bool, e_k_dict_str, e_k_dict_list, e_k_dict_tuple, e_k_dict_dict, List.getElem?_cons_zero, List.getElem?_cons_succ, List.set_cons_zero, List.set_cons_succ, decide_true, decide_false, Bool.not_true, Bool.not_false, if_true, if_false, ite_true, ite_false, Bool.false_eq_true, true_and, and_true, truD, eq_self, Int.zero_add]
        refine .inl ⟨0, rfl, fits_small (by simp), ?_⟩
        exact deed_none n3 hn hF hnf hnk hc q
      · subst hM1
        refine seqG fun M1 hM1 => ?_
        simp only [e_var, e_C, e_op, e_un, e_test, e_tru, e_and, e_or, e_not, e_andV, e_orV, e_notV, e_if, e_nil, e_cons, e_lst, e_lstM, e_tup, e_N, e_R1, e_R2, e_call, e_meth, e_make, e_fld, e_bm, e_noPart, e_part, e_sl, e_yes, e_lc, e_seqI, e_goL, e_goScr, e_rng1, e_rng2, e_next, e_seq, e_set, e_asg, e_exp, e_ret, e_retN, e_sif, e_brk, e_cnt, e_sub, e_augsub, e_aug, e_sfld, e_augfld, e_for, e_chain, e_add, e_addI, e_addL, e_addT, e_addS, e_subI, e_mul, e_mulI, e_fdiv, e_mod, e_pow, e_shl, e_shr, e_band, e_bor, e_bxor, e_lt, e_le, e_gt, e_ge, e_neg, e_eqI, e_neI, e_eqS, e_neS, e_eqB, e_neB, e_eqNI, e_neNI, e_isNN, e_isIN, e_isSN, e_isBN, e_isTN, e_isLN, e_isON, e_isntNN, e_isntIN, e_isntSN, e_isntTN, e_isntLN, e_isntON, e_min2, e_max2, e_int1, e_int1b, e_lenL, e_lenT, e_lenKT, e_lenS, e_lenScr, e_listL, e_listT, e_outT, e_outF, e_slL, e_slT, e_ixL, e_ixT, e_ixKT, e_ixScr, e_isi1, e_isi2, e_tyN, e_tyB, e_tyI, e_tyS, e_tyL, e_tyT, e_tyKT, e_k_NoneType_int, e_k_NoneType_bool, e_k_NoneType_str, e_k_NoneType_list, e_k_NoneType_tuple, e_k_NoneType_dict, e_k_bool_int, e_k_bool_bool, e_k_bool_str, e_k_bool_list, e_k_bool_tuple, e_k_bool_dict, e_k_int_int, e_k_int_bool, e_k_int_str, e_k_int_list, e_k_int_tuple, e_k_int_dict, e_k_str_int, e_k_str_bool, e_k_str_str, e_k_str_list, e_k_str_tuple, e_k_str_dict, e_k_list_int, e_k_list_bool, e_k_list_str, e_k_list_list, e_k_list_tuple, e_k_list_dict, e_k_tuple_int, e_k_tuple_bool, e_k_tuple_str, e_k_tuple_list, e_k_tuple_tuple, e_k_tuple_dict, e_k_dict_int, e_k_dict_bool, e_k_dict_str, e_k_dict_list, e_k_dict_tuple, e_k_dict_dict, List.getElem?_cons_zero, List.getElem?_cons_succ, List.set_cons_zero, List.set_cons_succ, decide_true, decide_false, Bool.not_true, Bool.not_false, if_true, if_false, ite_true, ite_false, Bool.false_eq_true, true_and, and_true, truD, eq_self, Int.zero_add, e_eqLim hl h0]
        subst hM1
        simp only [e_var, e_C, e_op, e_un, e_test, e_tru, e_and, e_or, e_not, e_andV, e_orV, e_notV, e_if, e_nil, e_cons, e_lst, e_lstM, e_tup, e_N, e_R1, e_R2, e_call, e_meth, e_make, e_fld, e_bm, e_noPart, e_part, e_sl, e_yes, e_lc, e_seqI, e_goL, e_goScr, e_rng1, e_rng2, e_next, e_seq, e_set, e_asg, e_exp, e_ret, e_retN, e_sif, e_brk, e_cnt, e_sub, e_augsub, e_aug, e_sfld, e_augfld, e_for, e_chain, e_add, e_addI, e_addL, e_addT, e_addS, e_subI, e_mul, e_mulI, e_fdiv, e_mod, e_pow, e_shl, e_shr, e_band, e_bor, e_bxor, e_lt, e_le, e_gt, e_ge, e_neg, e_eqI, e_neI, e_eqS, e_neS, e_eqB, e_neB, e_eqNI, e_neNI, e_isNN, e_isIN, e_isSN, e_isBN, e_isTN, e_isLN, e_isON, e_isntNN, e_isntIN, e_isntSN, e_isntTN, e_isntLN, e_isntON, e_min2, e_max2, e_int1, e_int1b, e_lenL, e_lenT, e_lenKT, e_lenS, e_lenScr, e_listL, e_listT, e_outT, e_outF, e_slL, e_slT, e_ixL, e_ixT, e_ixKT, e_ixScr, e_isi1, e_isi2, e_tyN, e_tyB, e_tyI, e_tyS, e_tyL, e_tyT, e_tyKT, e_k_NoneType_int, e_k_NoneType_bool, e_k_NoneType_str, e_k_NoneType_list, e_k_NoneType_tuple, e_k_NoneType_dict, e_k_bool_int, e_k_bool_bool, e_k_bool_str, e_k_bool_list, e_k_bool_tuple, e_k_bool_dict, e_k_int_int, e_k_int_bool, e_k_int_str, e_k_int_list, e_k_int_tuple, e_k_int_dict, e_k_str_int, e_k_str_bool, e_k_str_str, e_k_str_list, e_k_str_tuple, e_k_str_dict, e_k_list_int, e_k_list_bool, e_k_list_str, e_k_list_list, e_k_list_tuple, e_k_list_dict, e_k_tuple_int, e_k_tuple_bool, e_k_tuple_str, e_k_tuple_list, e_k_tuple_tuple, e_k_tuple_dict, e_k_dict_int, e_k_dict_bool, e_k_dict_str, e_k_dict_list, e_k_dict_tuple, e_k_dict_dict, List.getElem?_cons_zero, List.getElem?_cons_succ, List.set_cons_zero, List.set_cons_succ, decide_true, decide_false, Bool.not_true, Bool.not_false, if_true, if_false, ite_true, ite_false, Bool.false_eq_true, true_and, and_true, truD, eq_self, Int.zero_add]
        refine .inl ⟨1, rfl, fits_small (by simp), fits_small (by simp), ?_⟩
        refine ⟨fits_small (by rw [List.length_map]; simp; omega), fits_small (by simp), ?_⟩
        have := deed_more (tt := [.cut z]) (g := []) n3 hn hF hnf hnk (by simp) hc (fun s h => by rw [List.mem_singleton.1 h]; exact z0) q
        rw [List.append_nil] at this
        rw [List.map_append (f := encL)] at this
        exact this
    · simp only [c2, e_var, e_C, e_op, e_un, e_test, e_tru, e_and, e_or, e_not, e_andV, e_orV, e_notV, e_if, e_nil, e_cons, e_lst, e_lstM, e_tup, e_N, e_R1, e_R2, e_call, e_meth, e_make, e_fld, e_bm, e_noPart, e_part, e_sl, e_yes, e_lc, e_seqI, e_goL, e_goScr, e_rng1, e_rng2, e_next, e_seq, e_set, e_asg, e_exp, e_ret, e_retN, e_sif, e_brk, e_cnt, e_sub, e_augsub, e_aug, e_sfld, e_augfld, e_for, e_chain, e_add, e_addI, e_addL, e_addT, e_addS, e_subI, e_mul, e_mulI, e_fdiv, e_mod, e_pow, e_shl, e_shr, e_band, e_bor, e_bxor, e_lt, e_le, e_gt, e_ge, e_neg, e_eqI, e_neI, e_eqS, e_neS, e_eqB, e_neB, e_eqNI, e_neNI, e_isNN, e_isIN, e_isSN, e_isBN, e_isTN, e_isLN, e_isON, e_isntNN, e_isntIN, e_isntSN, e_isntTN, e_isntLN, e_isntON, e_min2, e_max2, e_int1, e_int1b, e_lenL, e_lenT, e_lenKT, e_lenS, e_lenScr, e_listL, e_listT, e_outT, e_outF, e_slL, e_slT, e_ixL, e_ixT, e_ixKT, e_ixScr, e_isi1, e_isi2, e_tyN, e_tyB, e_tyI, e_tyS, e_tyL, e_tyT, e_tyKT, e_k_NoneType_int, e_k_NoneType_bool, e_k_NoneType_str, e_k_NoneType_list, e_k_NoneType_tuple, e_k_NoneType_dict, e_k_bool_int, e_k_bool_bool, e_k_bool_str, e_k_bool_list, e_k_bool_tuple, e_k_bool_dict, e_k_int_int, e_k_int_bool, e_k_int_str, e_k_int_list, e_k_int_tuple, e_k_int_dict, e_k_str_int, e_k_str_bool, e_k_str_str, e_k_str_list, e_k_str_tuple, e_k_str_dict, e_k_list_int, e_k_list_bool, e_k_list_str, e_k_list_list, e_k_list_tuple, e_k_list_dict, e_k_tuple_int, e_k_tuple_bool, e_k_tuple_str, e_k_tuple_list, e_k_tuple_tuple, e_k_tuple_dict, e_k_dict_int, e_k_dict_bool, e_k_dict_str, e_k_dict_list, e_k_dict_tuple, e_k_dict_dict, List.getElem?_cons_zero, List.getElem?_cons_succ, List.set_cons_zero, List.set_cons_succ, decide_true, decide_false, Bool.not_true, Bool.not_false, if_true, if_false, ite_true, ite_false, Bool.false_eq_true, true_and, and_true, truD, eq_self, Int.zero_add]
      subst hF'
      simp only [e_var, e_C, e_op, e_un, e_test, e_tru, e_and, e_or, e_not, e_andV, e_orV, e_notV, e_if, e_nil, e_cons, e_lst, e_lstM, e_tup, e_N, e_R1, e_R2, e_call, e_meth, e_make, e_fld, e_bm, e_noPart, e_part, e_sl, e_yes, e_lc, e_seqI, e_goL, e_goScr, e_rng1, e_rng2, e_next, e_seq, e_set, e_asg, e_exp, e_ret, e_retN, e_sif, e_brk, e_cnt, e_sub, e_augsub, e_aug, e_sfld, e_augfld, e_for, e_chain, e_add, e_addI, e_addL, e_addT, e_addS, e_subI, e_mul, e_mulI, e_fdiv, e_mod, e_pow, e_shl, e_shr, e_band, e_bor, e_bxor, e_lt, e_le, e_gt, e_ge, e_neg, e_eqI, e_neI, e_eqS, e_neS, e_eqB, e_neB, e_eqNI, e_neNI, e_isNN, e_isIN, e_isSN, e_isBN, e_isTN, e_isLN, e_isON, e_isntNN, e_isntIN, e_isntSN, e_isntTN, e_isntLN, e_isntON, e_min2, e_max2, e_int1, e_int1b, e_lenL, e_lenT, e_lenKT, e_lenS, e_lenScr, e_listL, e_listT, e_outT, e_outF, e_slL, e_slT, e_ixL, e_ixT, e_ixKT, e_ixScr, e_isi1, e_isi2, e_tyN, e_tyB, e_tyI, e_tyS, e_tyL, e_tyT, e_tyKT, e_k_NoneType_int, e_k_NoneType_bool, e_k_NoneType_str, e_k_NoneType_list, e_k_NoneType_tuple, e_k_NoneType_dict, e_k_bool_int, e_k_bool_bool, e_k_bool_str, e_k_bool_list, e_k_bool_tuple, e_k_bool_dict, e_k_int_int, e_k_int_bool, e_k_int_str, e_k_int_list, e_k_int_tuple, e_k_int_dict, e_k_str_int, e_k_str_bool, e_k_str_str, e_k_str_list, e_k_str_tuple, e_k_str_dict, e_k_list_int, e_k_list_bool, e_k_list_str, e_k_list_list, e_k_list_tuple, e_k_list_dict, e_k_tuple_int, e_k_tuple_bool, e_k_tuple_str, e_k_tuple_list, e_k_tuple_tuple, e_k_tuple_dict, e_k_dict_int, e_k_dict_bool, e_k_dict_str, e_k_dict_list, e_k_dict_tuple, e_k_dict_dict, List.getElem?_cons_zero, List.getElem?_cons_succ, List.set_cons_zero, List.set_cons_succ, decide_true, decide_false, Bool.not_true, Bool.not_false, if_true, if_false, ite_true, ite_false, Bool.false_eq_true, true_and, and_true, truD, eq_self, Int.zero_add]
      subst hM
      refine seqG fun M hM => ?_
      refine ifG fun T F hT hF' => ?_
      simp only [e_var, e_C, e_op, e_un, e_test, e_tru, e_and, e_or, e_not, e_andV, e_orV, e_notV, e_if, e_nil, e_cons, e_lst, e_lstM, e_tup, e_N, e_R1, e_R2, e_call, e_meth, e_make, e_fld, e_bm, e_noPart, e_part, e_sl, e_yes, e_lc, e_seqI, e_goL, e_goScr, e_rng1, e_rng2, e_next, e_seq, e_set, e_asg, e_exp, e_ret, e_retN, e_sif, e_brk, e_cnt, e_sub, e_augsub, e_aug, e_sfld, e_augfld, e_for, e_chain, e_add, e_addI, e_addL, e_addT, e_addS, e_subI, e_mul, e_mulI, e_fdiv, e_mod, e_pow, e_shl, e_shr, e_band, e_bor, e_bxor, e_lt, e_le, e_gt, e_ge, e_neg, e_eqI, e_neI, e_eqS, e_neS, e_eqB, e_neB, e_eqNI, e_neNI, e_isNN, e_isIN, e_isSN, e_isBN, e_isTN, e_isLN, e_isON, e_isntNN, e_isntIN, e_isntSN, e_isntTN, e_isntLN, e_isntON, e_min2, e_max2, e_int1, e_int1b, e_lenL, e_lenT, e_lenKT, e_lenS, e_lenScr, e_listL, e_listT, e_outT, e_outF, e_slL, e_slT, e_ixL, e_ixT, e_ixKT, e_ixScr, e_isi1, e_isi2, e_tyN, e_tyB, e_tyI, e_tyS, e_tyL, e_tyT, e_tyKT, e_k_NoneType_int, e_k_NoneType_bool, e_k_NoneType_str, e_k_NoneType_list, e_k_NoneType_tuple, e_k_NoneType_dict, e_k_bool_int, e_k_bool_bool, e_k_bool_str, e_k_bool_list, e_k_bool_tuple, e_k_bool_dict, e_k_int_int, e_k_int_bool, e_k_int_str, e_k_int_list, e_k_int_tuple, e_k_int_dict, e_k_str_int, e_k_str_bool, e_k_str_str, e_k_str_list, e_k_str_tuple, e_k_str_dict, e_k_list_int, e_k_list_bool, e_k_list_str, e_k_list_list, e_k_list_tuple, e_k_list_dict, e_k_tuple_int, e_k_tuple_bool, e_k_tuple_str, e_k_tuple_list, e_k_tuple_tuple, e_k_tuple_dict, e_k_dict_int, e_k_dict_bool, e_k_dict_str, e_k_dict_list, e_k_dict_tuple, e_k_dict_dict, List.getElem?_cons_zero, List.getElem?_cons_succ, List.set_cons_zero, List.set_cons_succ, decide_true, decide_false, Bool.not_true, Bool.not_false, if_true, if_false, ite_true, ite_false, Bool.false_eq_true, true_and, and_true, truD, eq_self, Int.zero_add]
      by_cases c3 : pick < 7
      · simp only [c3, e_var, e_C, e_op, e_un, e_test, e_tru, e_and, e_or, e_not, e_andV, e_orV, e_notV, e_if, e_nil, e_cons, e_lst, e_lstM, e_tup, e_N, e_R1, e_R2, e_call, e_meth, e_make, e_fld, e_bm, e_noPart, e_part, e_sl, e_yes, e_lc, e_seqI, e_goL, e_goScr, e_rng1, e_rng2, e_next, e_seq, e_set, e_asg, e_exp, e_ret, e_retN, e_sif, e_brk, e_cnt, e_sub, e_augsub, e_aug, e_sfld, e_augfld, e_for, e_chain, e_add, e_addI, e_addL, e_addT, e_addS, e_subI, e_mul, e_mulI, e_fdiv, e_mod, e_pow, e_shl, e_shr, e_band, e_bor, e_bxor, e_lt, e_le, e_gt, e_ge, e_neg, e_eqI, e_neI, e_eqS, e_neS, e_eqB, e_neB, e_eqNI, e_neNI, e_isNN, e_isIN, e_isSN, e_isBN, e_isTN, e_isLN, e_isON, e_isntNN, e_isntIN, e_isntSN, e_isntTN, e_isntLN, e_isntON, e_min2, e_max2, e_int1, e_int1b, e_lenL, e_lenT, e_lenKT, e_lenS, e_lenScr, e_listL, e_listT, e_outT, e_outF, e_slL, e_slT, e_ixL, e_ixT, e_ixKT, e_ixScr, e_isi1, e_isi2, e_tyN, e_tyB, e_tyI, e_tyS, e_tyL, e_tyT, e_tyKT, e_k_NoneType_int, e_k_NoneType_bool, e_k_NoneType_str, e_k_NoneType_list, e_k_NoneType_tuple, e_k_NoneType_dict, e_k_bool_int, e_k_bool_bool, e_k_bool_str, e_k_bool_list, e_k_bool_tuple, e_k_bool_dict, e_k_int_int, e_k_int_bool, e_k_int_str, e_k_int_list, e_k_int_tuple, e_k_int_dict, e_k_str_int, e_k_str_bool, e_k_str_str, e_k_str_list, e_k_str_tuple, e_k_str_dict, e_k_list_int, e_k_list_bool, e_k_list_str, e_k_list_list, e_k_list_tuple, e_k_list_dict, e_k_tuple_int, e_k_tuple_bool, e_k_tuple_str, e_k_tuple_list, e_k_tuple_tuple, e_k_tuple_dict, e_k_dict_int, e_k_dict_bool, e_k_dict_str, e_k_dict_list, e_k_dict_tuple, e_k_dict_dict, List.getElem?_cons_zero, List.getElem?_cons_succ, List.set_cons_zero, List.set_cons_succ, decide_true, decide_false, Bool.not_true, Bool.not_false, if_true, if_false, ite_true, ite_false, Bool.false_eq_true, true_and, and_true, truD, eq_self, Int.zero_add]
        subst hT
        refine seqG fun M1 hM1 => ?_
        simp only [e_var, e_C, e_op, e_un, e_test, e_tru, e_and, e_or, e_not, e_andV, e_orV, e_notV, e_if, e_nil, e_cons, e_lst, e_lstM, e_tup, e_N, e_R1, e_R2, e_call, e_meth, e_make, e_fld, e_bm, e_noPart, e_part, e_sl, e_yes, e_lc, e_seqI, e_goL, e_goScr, e_rng1, e_rng2, e_next, e_seq, e_set, e_asg, e_exp, e_ret, e_retN, e_sif, e_brk, e_cnt, e_sub, e_augsub, e_aug, e_sfld, e_augfld, e_for, e_chain, e_add, e_addI, e_addL, e_addT, e_addS, e_subI, e_mul, e_mulI, e_fdiv, e_mod, e_pow, e_shl, e_shr, e_band, e_bor, e_bxor, e_lt, e_le, e_gt, e_ge, e_neg, e_eqI, e_neI, e_eqS, e_neS, e_eqB, e_neB, e_eqNI, e_neNI, e_isNN, e_isIN, e_isSN, e_isBN, e_isTN, e_isLN, e_isON, e_isntNN, e_isntIN, e_isntSN, e_isntTN, e_isntLN, e_isntON, e_min2, e_max2, e_int1, e_int1b, e_lenL, e_lenT, e_lenKT, e_lenS, e_lenScr, e_listL, e_listT, e_outT, e_outF, e_slL, e_slT, e_ixL, e_ixT, e_ixKT, e_ixScr, e_isi1, e_isi2, e_tyN, e_tyB, e_tyI, e_tyS, e_tyL, e_tyT, e_tyKT, e_k_NoneType_int, e_k_NoneType_bool, e_k_NoneType_str, e_k_NoneType_list, e_k_NoneType_tuple, e_k_NoneType_dict, e_k_bool_int, e_k_bool_bool, e_k_bool_str, e_k_bool_list, e_k_bool_tuple, e_k_bool_dict, e_k_int_int, e_k_int_bool, e_k_int_str, e_k_int_list, e_k_int_tuple, e_k_int_dict, e_k_str_int, e_k_str_bool, e_k_str_str, e_k_str_list, e_k_str_tuple, e_k_str_dict, e_k_list_int, e_k_list_bool, e_k_list_str, e_k_list_list, e_k_list_tuple, e_k_list_dict, e_k_tuple_int, e_k_tuple_bool, e_k_tuple_str, e_k_tuple_list, e_k_tuple_tuple, e_k_tuple_dict, e_k_dict_int, e_k_dict_bool, e_k_dict_str, e_k_dict_list, e_k_dict_tuple, e_k_dict_dict, List.getElem?_cons_zero, List.getElem?_cons_succ, List.set_cons_zero, List.set_cons_succ, decide_true, decide_false, Bool.not_true, Bool.not_false, if_true, if_false, ite_true, ite_false, Bool.false_eq_true, true_and, and_true, truD, eq_self, Int.zero_add, e_objV hF2.1, Option.isSome_some]
        refine ⟨f, k, ls, ss, l, rfl, hF2, hl, fits_small (by omega), fun h0 => ?_, fun h0 => ?_⟩
        · subst h0
          subst hM1
          refine seqG fun M1 hM1 => ?_
          simp only [e_var, e_C, e_op, e_un, e_test, e_tru, e_and, e_or, e_not, e_andV, e_orV, e_notV, e_if, e_nil, e_cons, e_lst, e_lstM, e_tup, e_N, e_R1, e_R2, e_call, e_meth, e_make, e_fld, e_bm, e_noPart, e_part, e_sl, e_yes, e_lc, e_seqI, e_goL, e_goScr, e_rng1, e_rng2, e_next, e_seq, e_set, e_asg, e_exp, e_ret, e_retN, e_sif, e_brk, e_cnt, e_sub, e_augsub, e_aug, e_sfld, e_augfld, e_for, e_chain, e_add, e_addI, e_addL, e_addT, e_addS, e_subI, e_mul, e_mulI, e_fdiv, e_mod, e_pow, e_shl, e_shr, e_band, e_bor, e_bxor, e_lt, e_le, e_gt, e_ge, e_neg, e_eqI, e_neI, e_eqS, e_neS, e_eqB, e_neB, e_eqNI, e_neNI, e_isNN, e_isIN, e_isSN, e_isBN, e_isTN, e_isLN, e_isON, e_isntNN, e_isntIN, e_isntSN, e_isntTN, e_isntLN, e_isntON, e_min2, e_max2, e_int1, e_int1b, e_lenL, e_lenT, e_lenKT, e_lenS, e_lenScr, e_listL, e_listT, e_outT, e_outF, e_slL, e_slT, e_ixL, e_ixT, e_ixKT, e_ixScr, e_isi1, e_isi2, e_tyN, e_tyB, e_tyI, e_tyS, e_tyL, e_tyT, e_tyKT, e_k_NoneType_int, e_k_NoneType_bool, e_k_NoneType_str, e_k_NoneType_list, e_k_NoneType_tuple, e_k_NoneType_dict, e_k_bool_int, e_k_bool_bool, e_k_bool_str, e_k_bool_list, e_k_bool_tuple, e_k_bool_dict, e_k_int_int, e_k_int_bool, e_k_int_str, e_k_int_list, e_k_int_tuple, e_k_int_dict, e_k_str_int, e_k_str_bool, e_k_str_str, e_k_str_list, e_k_str_tuple, e_k_str_dict, e_k_list_int, e_k_list_bool, e_k_list_str, e_k_list_list, e_k_list_tuple, e_k_list_dict, e_k_tuple_int, e_k_tuple_bool, e_k_tuple_str, e_k_tuple_list, e_k_tuple_tuple, e_k_tuple_dict, e_k_dict_int, e_k_dict_bool, e_k_dict_str, e_k_dict_list, e_k_dict_tuple, e_k_dict_dict, List.getElem?_cons_zero, List.getElem?_cons_succ, List.set_cons_zero, List.set_cons_succ, decide_true, decide_false, Bool.not_true, Bool.not_false, if_true, if_false, ite_true, ite_false, Bool.false_eq_true, true_and, and_true, truD, eq_self, Int.zero_add]
          refine .inl ⟨0, rfl, fits_small (by simp), ?_⟩
          exact deed_none n2 hn hF hnf hnk hc q
        · subst hM1
          refine seqG fun M1 hM1 => ?_
          simp only [e_var, e_C, e_op, e_un, e_test, e_tru, e_and, e_or, e_not, e_andV, e_orV, e_notV, e_if, e_nil, e_cons, e_lst, e_lstM, e_tup, e_N, e_R1, e_R2, e_call, e_meth, e_make, e_fld, e_bm, e_noPart, e_part, e_sl, e_yes, e_lc, e_seqI, e_goL, e_goScr, e_rng1, e_rng2, e_next, e_seq, e_set, e_asg, e_exp, e_ret, e_retN, e_sif, e_brk, e_cnt, e_sub, e_augsub, e_aug, e_sfld, e_augfld, e_for, e_chain, e_add, e_addI, e_addL, e_addT, e_addS, e_subI, e_mul, e_mulI, e_fdiv, e_mod, e_pow, e_shl, e_shr, e_band, e_bor, e_bxor, e_lt, e_le, e_gt, e_ge, e_neg, e_eqI, e_neI, e_eqS, e_neS, e_eqB, e_neB, e_eqNI, e_neNI, e_isNN, e_isIN, e_isSN, e_isBN, e_isTN, e_isLN, e_isON, e_isntNN, e_isntIN, e_isntSN, e_isntTN, e_isntLN, e_isntON, e_min2, e_max2, e_int1, e_int1b, e_lenL, e_lenT, e_lenKT, e_lenS, e_lenScr, e_listL, e_listT, e_outT, e_outF, e_slL, e_slT, e_ixL, e_ixT, e_ixKT, e_ixScr, e_isi1, e_isi2, e_tyN, e_tyB, e_tyI, e_tyS, e_tyL, e_tyT, e_tyKT, e_k_NoneType_int, e_k_NoneType_bool, e_k_NoneType_str, e_k_NoneType_list, e_k_NoneType_tuple, e_k_NoneType_dict, e_k_bool_int, e_k_bool_bool, e_k_bool_str, e_k_bool_list, e_k_bool_tuple, e_k_bool_dict, e_k_int_int, e_k_int_bool, e_k_int_str, e_k_int_list, e_k_int_tuple, e_k_int_dict, e_k_str_int, e_k_str_bool, e_k_str_str, e_k_str_list, e_k_str_tuple, e_k_str_dict, e_k_list_int, e_k_list_bool, e_k_list_str, e_k_list_list, e_k_list_tuple, e_k_list_dict, e_k_tuple_int, e_k_tuple_bool, e_k_tuple_str, e_k_tuple_list, e_k_tuple_tuple, e_k_tuple_dict, e_k_dict_int, e_k_dict_bool, e_k_dict_str, e_k_dict_list, e_k_dict_tuple, e_k_dict_dict, List.getElem?_cons_zero, List.getElem?_cons_succ, List.set_cons_zero, List.set_cons_succ, decide_true, decide_false, Bool.not_true, Bool.not_false, if_true, if_false, ite_true, ite_false, Bool.false_eq_true, true_and, and_true, truD, eq_self, Int.zero_add, e_eqLim hl h0]
          subst hM1
          simp only [e_var, e_C, e_op, e_un, e_test, e_tru, e_and, e_or, e_not, e_andV, e_orV, e_notV, e_if, e_nil, e_cons, e_lst, e_lstM, e_tup, e_N, e_R1, e_R2, e_call, e_meth, e_make, e_fld, e_bm, e_noPart, e_part, e_sl, e_yes, e_lc, e_seqI, e_goL, e_goScr, e_rng1, e_rng2, e_next, e_seq, e_set, e_asg, e_exp, e_ret, e_retN, e_sif, e_brk, e_cnt, e_sub, e_augsub, e_aug, e_sfld, e_augfld, e_for, e_chain, e_add, e_addI, e_addL, e_addT, e_addS, e_subI, e_mul, e_mulI, e_fdiv, e_mod, e_pow, e_shl, e_shr, e_band, e_bor, e_bxor, e_lt, e_le, e_gt, e_ge, e_neg, e_eqI, e_neI, e_eqS, e_neS, e_eqB, e_neB, e_eqNI, e_neNI, e_isNN, e_isIN, e_isSN, e_isBN, e_isTN, e_isLN, e_isON, e_isntNN, e_isntIN, e_isntSN, e_isntTN, e_isntLN, e_isntON, e_min2, e_max2, e_int1, e_int1b, e_lenL, e_lenT, e_lenKT, e_lenS, e_lenScr, e_listL, e_listT, e_outT, e_outF, e_slL, e_slT, e_ixL, e_ixT, e_ixKT, e_ixScr, e_isi1, e_isi2, e_tyN, e_tyB, e_tyI, e_tyS, e_tyL, e_tyT, e_tyKT, e_k_NoneType_int, e_k_NoneType_bool, e_k_NoneType_str, e_k_NoneType_list, e_k_NoneType_tuple, e_k_NoneType_dict, e_k_bool_int, e_k_bool_bool, e_k_bool_str, e_k_bool_list, e_k_bool_tuple, e_k_bool_dict, e_k_int_int, e_k_int_bool, e_k_int_str, e_k_int_list, e_k_int_tuple, e_k_int_dict, e_k_str_int, e_k_str_bool, e_k_str_str, e_k_str_list, e_k_str_tuple, e_k_str_dict, e_k_list_int, e_k_list_bool, e_k_list_str, e_k_list_list, e_k_list_tuple, e_k_list_dict, e_k_tuple_int, e_k_tuple_bool, e_k_tuple_str, e_k_tuple_list, e_k_tuple_tuple, e_k_tuple_dict, e_k_dict_int, e_k_dict_bool, e_k_dict_str, e_k_dict_list, e_k_dict_tuple, e_k_dict_dict, List.getElem?_cons_zero, List.getElem?_cons_succ, List.set_cons_zero, List.set_cons_succ, decide_true, decide_false, Bool.not_true, Bool.not_false, if_true, if_false, ite_true, ite_false, Bool.false_eq_true, true_and, and_true, truD, eq_self, Int.zero_add]
          refine .inl ⟨1, rfl, ls, ss, rfl, fits_small (by omega), fits_small (by simp), fits_small (by simp), ?_⟩
          exact deed_lost n2 hn hF hnf hnk run_len q
      · simp only [c3, e_var, e_C, e_op, e_un, e_test, e_tru, e_and, e_or, e_not, e_andV, e_orV, e_notV, e_if, e_nil, e_cons, e_lst, e_lstM, e_tup, e_N, e_R1, e_R2, e_call, e_meth, e_make, e_fld, e_bm, e_noPart, e_part, e_sl, e_yes, e_lc, e_seqI, e_goL, e_goScr, e_rng1, e_rng2, e_next, e_seq, e_set, e_asg, e_exp, e_ret, e_retN, e_sif, e_brk, e_cnt, e_sub, e_augsub, e_aug, e_sfld, e_augfld, e_for, e_chain, e_add, e_addI, e_addL, e_addT, e_addS, e_subI, e_mul, e_mulI, e_fdiv, e_mod, e_pow, e_shl, e_shr, e_band, e_bor, e_bxor, e_lt, e_le, e_gt, e_ge, e_neg, e_eqI, e_neI, e_eqS, e_neS, e_eqB, e_neB, e_eqNI, e_neNI, e_isNN, e_isIN, e_isSN, e_isBN, e_isTN, e_isLN, e_isON, e_isntNN, e_isntIN, e_isntSN, e_isntTN, e_isntLN, e_isntON, e_min2, e_max2, e_int1, e_int1b, e_lenL, e_lenT, e_lenKT, e_lenS, e_lenScr, e_listL, e_listT, e_outT, e_outF, e_slL, e_slT, e_ixL, e_ixT, e_ixKT, e_ixScr, e_isi1, e_isi2, e_tyN, e_tyB, e_tyI, e_tyS, e_tyL, e_tyT, e_tyKT, e_k_NoneType_int, e_k_NoneType_bool, e_k_NoneType_str, e_k_NoneType_list, e_k_NoneType_tuple, e_k_NoneType_dict, e_k_bool_int, e_k_bool_bool, e_k_bool_str, e_k_bool_list, e_k_bool_tuple, e_k_bool_dict, e_k_int_int, e_k_int_bool, e_k_int_str, e_k_int_list, e_k_int_tuple, e_k_int_dict, e_k_str_int, e_k_str_bool, e_k_str_str, e_k_str_list, e_k_str_tuple, e_k_str_dict, e_k_list_int, e_k_list_bool, e_k_list_str, e_k_list_list, e_k_list_tuple, e_k_list_dict, e_k_tuple_int, e_k_tuple_bool, e_k_tuple_str, e_k_tuple_list, e_k_tuple_tuple, e_k_tuple_dict, e_k_dict_int, e_k_dict_bool, e_k_dict_str, e_k_dict_list, e_k_dict_tuple, e_k_dict_dict, List.getElem?_cons_zero, List.getElem?_cons_succ, List.set_cons_zero, List.set_cons_succ, decide_true, decide_false, Bool.not_true, Bool.not_false, if_true, if_false, ite_true, ite_false, Bool.false_eq_true, true_and, and_true, truD, eq_self, Int.zero_add]
        subst hF'
        simp only [e_var, e_C, e_op, e_un, e_test, e_tru, e_and, e_or, e_not, e_andV, e_orV, e_notV, e_if, e_nil, e_cons, e_lst, e_lstM, e_tup, e_N, e_R1, e_R2, e_call, e_meth, e_make, e_fld, e_bm, e_noPart, e_part, e_sl, e_yes, e_lc, e_seqI, e_goL, e_goScr, e_rng1, e_rng2, e_next, e_seq, e_set, e_asg, e_exp, e_ret, e_retN, e_sif, e_brk, e_cnt, e_sub, e_augsub, e_aug, e_sfld, e_augfld, e_for, e_chain, e_add, e_addI, e_addL, e_addT, e_addS, e_subI, e_mul, e_mulI, e_fdiv, e_mod, e_pow, e_shl, e_shr, e_band, e_bor, e_bxor, e_lt, e_le, e_gt, e_ge, e_neg, e_eqI, e_neI, e_eqS, e_neS, e_eqB, e_neB, e_eqNI, e_neNI, e_isNN, e_isIN, e_isSN, e_isBN, e_isTN, e_isLN, e_isON, e_isntNN, e_isntIN, e_isntSN, e_isntTN, e_isntLN, e_isntON, e_min2, e_max2, e_int1, e_int1b, e_lenL, e_lenT, e_lenKT, e_lenS, e_lenScr, e_listL, e_listT, e_outT, e_outF, e_slL, e_slT, e_ixL, e_ixT, e_ixKT, e_ixScr, e_isi1, e_isi2, e_tyN, e_tyB, e_tyI, e_tyS, e_tyL, e_tyT, e_tyKT, e_k_NoneType_int, e_k_NoneType_bool, e_k_NoneType_str, e_k_NoneType_list, e_k_NoneType_tuple, e_k_NoneType_dict, e_k_bool_int, e_k_bool_bool, e_k_bool_str, e_k_bool_list, e_k_bool_tuple, e_k_bool_dict, e_k_int_int, e_k_int_bool, e_k_int_str, e_k_int_list, e_k_int_tuple, e_k_int_dict, e_k_str_int, e_k_str_bool, e_k_str_str, e_k_str_list, e_k_str_tuple, e_k_str_dict, e_k_list_int, e_k_list_bool, e_k_list_str, e_k_list_list, e_k_list_tuple, e_k_list_dict, e_k_tuple_int, e_k_tuple_bool, e_k_tuple_str, e_k_tuple_list, e_k_tuple_tuple, e_k_tuple_dict, e_k_dict_int, e_k_dict_bool, e_k_dict_str, e_k_dict_list, e_k_dict_tuple, e_k_dict_dict, List.getElem?_cons_zero, List.getElem?_cons_succ, List.set_cons_zero, List.set_cons_succ, decide_true, decide_false, Bool.not_true, Bool.not_false, if_true, if_false, ite_true, ite_false, Bool.false_eq_true, true_and, and_true, truD, eq_self, Int.zero_add]
        subst hM
        refine seqG fun M1 hM1 => ?_
        simp only [e_var, e_C, e_op, e_un, e_test, e_tru, e_and, e_or, e_not, e_andV, e_orV, e_notV, e_if, e_nil, e_cons, e_lst, e_lstM, e_tup, e_N, e_R1, e_R2, e_call, e_meth, e_make, e_fld, e_bm, e_noPart, e_part, e_sl, e_yes, e_lc, e_seqI, e_goL, e_goScr, e_rng1, e_rng2, e_next, e_seq, e_set, e_asg, e_exp, e_ret, e_retN, e_sif, e_brk, e_cnt, e_sub, e_augsub, e_aug, e_sfld, e_augfld, e_for, e_chain, e_add, e_addI, e_addL, e_addT, e_addS, e_subI, e_mul, e_mulI, e_fdiv, e_mod, e_pow, e_shl, e_shr, e_band, e_bor, e_bxor, e_lt, e_le, e_gt, e_ge, e_neg, e_eqI, e_neI, e_eqS, e_neS, e_eqB, e_neB, e_eqNI, e_neNI, e_isNN, e_isIN, e_isSN, e_isBN, e_isTN, e_isLN, e_isON, e_isntNN, e_isntIN, e_isntSN, e_isntTN, e_isntLN, e_isntON, e_min2, e_max2, e_int1, e_int1b, e_lenL, e_lenT, e_lenKT, e_lenS, e_lenScr, e_listL, e_listT, e_outT, e_outF, e_slL, e_slT, e_ixL, e_ixT, e_ixKT, e_ixScr, e_isi1, e_isi2, e_tyN, e_tyB, e_tyI, e_tyS, e_tyL, e_tyT, e_tyKT, e_k_NoneType_int, e_k_NoneType_bool, e_k_NoneType_str, e_k_NoneType_list, e_k_NoneType_tuple, e_k_NoneType_dict, e_k_bool_int, e_k_bool_bool, e_k_bool_str, e_k_bool_list, e_k_bool_tuple, e_k_bool_dict, e_k_int_int, e_k_int_bool, e_k_int_str, e_k_int_list, e_k_int_tuple, e_k_int_dict, e_k_str_int, e_k_str_bool, e_k_str_str, e_k_str_list, e_k_str_tuple, e_k_str_dict, e_k_list_int, e_k_list_bool, e_k_list_str, e_k_list_list, e_k_list_tuple, e_k_list_dict, e_k_tuple_int, e_k_tuple_bool, e_k_tuple_str, e_k_tuple_list, e_k_tuple_tuple, e_k_tuple_dict, e_k_dict_int, e_k_dict_bool, e_k_dict_str, e_k_dict_list, e_k_dict_tuple, e_k_dict_dict, List.getElem?_cons_zero, List.getElem?_cons_succ, List.set_cons_zero, List.set_cons_succ, decide_true, decide_false, Bool.not_true, Bool.not_false, if_true, if_false, ite_true, ite_false, Bool.false_eq_true, true_and, and_true, truD, eq_self, Int.zero_add, List.length_map]
        refine nxt n2 hn (by omega) fun c a3 z0 _ n3 => ?_
        have hF3 := n3.file hnf hnk hF
        subst hM1
        refine seqG fun M1 hM1 => ?_
        simp only [e_var, e_C, e_op, e_un, e_test, e_tru, e_and, e_or, e_not, e_andV, e_orV, e_notV, e_if, e_nil, e_cons, e_lst, e_lstM, e_tup, e_N, e_R1, e_R2, e_call, e_meth, e_make, e_fld, e_bm, e_noPart, e_part, e_sl, e_yes, e_lc, e_seqI, e_goL, e_goScr, e_rng1, e_rng2, e_next, e_seq, e_set, e_asg, e_exp, e_ret, e_retN, e_sif, e_brk, e_cnt, e_sub, e_augsub, e_aug, e_sfld, e_augfld, e_for, e_chain, e_add, e_addI, e_addL, e_addT, e_addS, e_subI, e_mul, e_mulI, e_fdiv, e_mod, e_pow, e_shl, e_shr, e_band, e_bor, e_bxor, e_lt, e_le, e_gt, e_ge, e_neg, e_eqI, e_neI, e_eqS, e_neS, e_eqB, e_neB, e_eqNI, e_neNI, e_isNN, e_isIN, e_isSN, e_isBN, e_isTN, e_isLN, e_isON, e_isntNN, e_isntIN, e_isntSN, e_isntTN, e_isntLN, e_isntON, e_min2, e_max2, e_int1, e_int1b, e_lenL, e_lenT, e_lenKT, e_lenS, e_lenScr, e_listL, e_listT, e_outT, e_outF, e_slL, e_slT, e_ixL, e_ixT, e_ixKT, e_ixScr, e_isi1, e_isi2, e_tyN, e_tyB, e_tyI, e_tyS, e_tyL, e_tyT, e_tyKT, e_k_NoneType_int, e_k_NoneType_bool, e_k_NoneType_str, e_k_NoneType_list, e_k_NoneType_tuple, e_k_NoneType_dict, e_k_bool_int, e_k_bool_bool, e_k_bool_str, e_k_bool_list, e_k_bool_tuple, e_k_bool_dict, e_k_int_int, e_k_int_bool, e_k_int_str, e_k_int_list, e_k_int_tuple, e_k_int_dict, e_k_str_int, e_k_str_bool, e_k_str_str, e_k_str_list, e_k_str_tuple, e_k_str_dict, e_k_list_int, e_k_list_bool, e_k_list_str, e_k_list_list, e_k_list_tuple, e_k_list_dict, e_k_tuple_int, e_k_tuple_bool, e_k_tuple_str, e_k_tuple_list, e_k_tuple_tuple, e_k_tuple_dict, e_k_dict_int, e_k_dict_bool, e_k_dict_str, e_k_dict_list, e_k_dict_tuple, e_k_dict_dict, List.getElem?_cons_zero, List.getElem?_cons_succ, List.set_cons_zero, List.set_cons_succ, decide_true, decide_false, Bool.not_true, Bool.not_false, if_true, if_false, ite_true, ite_false, Bool.false_eq_true, true_and, and_true, truD, eq_self, Int.zero_add, e_objV hF3.1, Option.isSome_some]
        refine ⟨f, k, ls, ss, c, rfl, hF3, z0, fits_small (by omega), ?_⟩
        subst hM1
        simp only [e_var, e_C, e_op, e_un, e_test, e_tru, e_and, e_or, e_not, e_andV, e_orV, e_notV, e_if, e_nil, e_cons, e_lst, e_lstM, e_tup, e_N, e_R1, e_R2, e_call, e_meth, e_make, e_fld, e_bm, e_noPart, e_part, e_sl, e_yes, e_lc, e_seqI, e_goL, e_goScr, e_rng1, e_rng2, e_next, e_seq, e_set, e_asg, e_exp, e_ret, e_retN, e_sif, e_brk, e_cnt, e_sub, e_augsub, e_aug, e_sfld, e_augfld, e_for, e_chain, e_add, e_addI, e_addL, e_addT, e_addS, e_subI, e_mul, e_mulI, e_fdiv, e_mod, e_pow, e_shl, e_shr, e_band, e_bor, e_bxor, e_lt, e_le, e_gt, e_ge, e_neg, e_eqI, e_neI, e_eqS, e_neS, e_eqB, e_neB, e_eqNI, e_neNI, e_isNN, e_isIN, e_isSN, e_isBN, e_isTN, e_isLN, e_isON, e_isntNN, e_isntIN, e_isntSN, e_isntTN, e_isntLN, e_isntON, e_min2, e_max2, e_int1, e_int1b, e_lenL, e_lenT, e_lenKT, e_lenS, e_lenScr, e_listL, e_listT, e_outT, e_outF, e_slL, e_slT, e_ixL, e_ixT, e_ixKT, e_ixScr, e_isi1, e_isi2, e_tyN, e_tyB, e_tyI, e_tyS, e_tyL, e_tyT, e_tyKT, e_k_NoneType_int, e_k_NoneType_bool, e_k_NoneType_str, e_k_NoneType_list, e_k_NoneType_tuple, e_k_NoneType_dict, e_k_bool_int, e_k_bool_bool, e_k_bool_str, e_k_bool_list, e_k_bool_tuple, e_k_bool_dict, e_k_int_int, e_k_int_bool, e_k_int_str, e_k_int_list, e_k_int_tuple, e_k_int_dict, e_k_str_int, e_k_str_bool, e_k_str_str, e_k_str_list, e_k_str_tuple, e_k_str_dict, e_k_list_int, e_k_list_bool, e_k_list_str, e_k_list_list, e_k_list_tuple, e_k_list_dict, e_k_tuple_int, e_k_tuple_bool, e_k_tuple_str, e_k_tuple_list, e_k_tuple_tuple, e_k_tuple_dict, e_k_dict_int, e_k_dict_bool, e_k_dict_str, e_k_dict_list, e_k_dict_tuple, e_k_dict_dict, List.getElem?_cons_zero, List.getElem?_cons_succ, List.set_cons_zero, List.set_cons_succ, decide_true, decide_false, Bool.not_true, Bool.not_false, if_true, if_false, ite_true, ite_false, Bool.false_eq_true, true_and, and_true, truD, eq_self, Int.zero_add, cut_take z0]
        refine ⟨fits_small (by rw [List.length_map]; omega), ls, ss.take c.toNat, by rw [List.map_take], fits_small (by rw [List.length_take]; omega), fits_small (by simp), fits_small (by simp), ?_⟩
        refine deed_lost n3 hn hF hnf hnk ?_ q
        have := @run_len (ss.take c.toNat) ls
        rw [List.length_take] at this
        omega
end K9
set_option Elab.async false
set_option linter.all false
set_option maxRecDepth 100000
set_option maxHeartbeats 1000000
namespace K9
open PySem PySem.Spec PyProof.Rows L2 DW
theorem FileAt.cong {a a' : A} {f k : Nat} {ls : List Int} {ss : List Stp} (h : FileAt a f k ls ss) (h1 : a'[f]? = a[f]?) (h2 : a'[k]? = a[k]?) : FileAt a' f k ls ss := ⟨h1.trans h.1, h2.trans h.2.1, h.2.2⟩
theorem StAt.cong {a a' : A} {n : Nat} (h : StAt a n) (h1 : a'[n]? = a[n]?) : StAt a' n := by obtain ⟨ms, i, h, h0⟩ := h; exact ⟨ms, i, h1.trans h, h0⟩
theorem FileAt.lt {a : A} {f k : Nat} {ls : List Int} {ss : List Stp} (h : FileAt a f k ls ss) : f < a.length := (List.getElem?_eq_some_iff.1 h.1).1
/-- the law's heap -/
structure J (a : A) (k o ko : Nat) (ls : List Int) (ss so : List Stp) : Prop where
  st : StAt a 0
  f1 : FileAt a 1 k ls ss
  f5 : FileAt a 5 7 [1, 2] [.app 3]
  fo : FileAt a o ko [] so
  nk : k ≠ 0 ∧ k ≠ 5 ∧ k ≠ 7 ∧ k ≠ o ∧ k ≠ ko
  no : o ≠ 0 ∧ o ≠ 1 ∧ o ≠ 5 ∧ o ≠ 7
  nko : ko ≠ 0 ∧ ko ≠ 1 ∧ ko ≠ 5 ∧ ko ≠ 7
  c : cutsOk ss
section
variable {a a' g : A} {k o ko : Nat} {ls : List Int} {ss so : List Stp}
theorem J.n1 (j : J a k o ko ls ss so) (h : N1 0 a a') : J a' k o ko ls ss so := by
  have := j.nk; have := j.no; have := j.nko
  exact ⟨h.st j.st.lt, h.file (by omega) (by omega) j.f1, h.file (by omega) (by omega) j.f5, h.file (by omega) (by omega) j.fo, j.nk, j.no, j.nko, j.c⟩
theorem J.app (j : J a k o ko ls ss so) : J (a ++ g) k o ko ls ss so :=
  ⟨j.st.cong (List.getElem?_append_left j.st.lt), j.f1.app, j.f5.app, j.fo.app, j.nk, j.no, j.nko, j.c⟩
theorem J.oput {so' : List Stp} (j : J a k o ko ls ss so) : J (a.set ko (.lst (so'.map encF))) k o ko ls ss so' := by
  have := j.nk; have := j.no; have := j.nko; have hoo := j.fo.2.2
  refine ⟨j.st.cong (List.getElem?_set_ne (by omega)), j.f1.cong (List.getElem?_set_ne (by omega)) (List.getElem?_set_ne (by omega)), j.f5.cong (List.getElem?_set_ne (by omega)) (List.getElem?_set_ne (by omega)), ⟨?_, ?_, hoo⟩, j.nk, j.no, j.nko, j.c⟩
  · rw [List.getElem?_set_ne (by omega)]; exact j.fo.1
  · rw [List.getElem?_set_self j.fo.put]
theorem J.newo (j : J a k o ko ls ss so) : J (a ++ [AO.obj 0 [.lst (dI []), .loc (a.length + 1)], AO.lst []]) k a.length (a.length + 1) ls ss [] := by
  have h1 := j.f1.lt; have h2 := j.f1.put; have h3 := j.f5.lt; have h4 := j.f5.put
  have j' := j.app (g := [AO.obj 0 [.lst (dI []), .loc (a.length + 1)], AO.lst []])
  refine ⟨j'.st, j'.f1, j'.f5, ⟨?_, ?_, by omega⟩, ⟨j.nk.1, j.nk.2.1, j.nk.2.2.1, by omega, by omega⟩, by omega, by omega, j.c⟩
  · exact getA (m := 0)
  · exact getA (m := 1)
theorem J.deed {k' : Nat} {ls' : List Int} {ss' : List Stp} (j : J a k o ko ls ss so) (d : Deed a a' 0 1 k k') (f : FileAt a' 1 k' ls' ss') (hc : cutsOk ss') : J a' k' o ko ls' ss' so := by
  have h3 := j.f5.lt; have h4 := j.f5.put; have h5 := j.fo.lt; have h6 := j.fo.put
  have := j.nk; have := j.no; have := j.nko
  have hk := d.k'
  have fr := d.fr
  refine ⟨d.st, f, j.f5.cong (fr _ (by omega) (by omega) (by omega) (by omega)) (fr _ (by omega) (by omega) (by omega) (by omega)), j.fo.cong (fr _ (by omega) (by omega) (by omega) (by omega)) (fr _ (by omega) (by omega) (by omega) (by omega)), ?_, j.no, j.nko, hc⟩
  rcases hk with rfl | hk
  · exact j.nk
  · have := j.st.lt
    omega
theorem sameL {a : A} {xs : List Int} {Q : DQ} {E : Exq} (hz : xs.length < 2 ^ 62) (q : Q (.bl true) a) : S__law_same 3 [.lst (dI xs), .lst (dI xs)] a Q E := .inr ⟨by decide, _, xs, rfl, rfl, hz, q⟩
theorem sameI {a : A} {i : Int} {Q : DQ} {E : Exq} (q : Q (.bl true) a) : S__law_same 3 [.int i, .int i] a Q E := .inl ⟨i, rfl, q⟩
theorem made {a : A} : (a ++ [AO.obj 0 []]).set a.length (.obj 0 [.lst (dI []), .loc (a ++ [AO.obj 0 []]).length]) ++ [AO.lst []] = a ++ [AO.obj 0 [.lst (dI []), .loc (a.length + 1)], AO.lst []] := by
  rw [slast, List.append_assoc, List.length_append]
  rfl
end
theorem nxJ {a : A} {k o ko : Nat} {ls : List Int} {ss so : List Stp} {L : Int} {Q : DQ} {E : Exq} (j : J a k o ko ls ss so) (hL : 0 < L) (q : ∀ v a', 0 ≤ v → v < L → J a' k o ko ls ss so → Q (.int v) a') : S__law_next [.loc 0, .int L] a Q E :=
  nxt (N1.refl j.st) j.st.lt hL fun v a' h0 h1 n => q v a' h0 h1 (j.n1 n)
theorem rd_law {ds : List D} {a : A} {Q : DQ} {E : Exq} (h : S_law ds a Q E) : t_law { nx := fun _ a' => Ret a Q .non a', rt := Ret a Q } (startD ["script", "state", "file", "lasting", "steps", "other", "still", "k", "right"] ds) a := by
  obtain ⟨ns, rfl, rfl, hns, q⟩ := h
  have fin : ∀ a', Ret [] Q (.bl true) a' := fun a' => Ret.pre (a := []) (g := a') True.intro (q [])
  show t_law _ [some (.scr ns), none, none, none, none, none, none, none, none] []
  unfold t_law
  refine seqG fun M hM => ?_
  simp only [e_var, e_C, e_op, e_un, e_test, e_tru, e_and, e_or, e_not, e_andV, e_orV, e_notV, e_if, e_nil, e_cons, e_lst, e_lstM, e_tup, e_N, e_R1, e_R2, e_call, e_meth, e_make, e_fld, e_bm, e_noPart, e_part, e_sl, e_yes, e_lc, e_seqI, e_goL, e_goScr, e_rng1, e_rng2, e_next, e_seq, e_set, e_asg, e_exp, e_ret, e_retN, e_sif, e_brk, e_cnt, e_sub, e_augsub, e_aug, e_sfld, e_augfld, e_for, e_chain, e_add, e_addI, e_addL, e_addT, e_addS, e_subI, e_mul, e_mulI, e_fdiv, e_mod, e_pow, e_shl, e_shr, e_band, e_bor, e_bxor, e_lt, e_le, e_gt, e_ge, e_neg, e_eqI, e_neI, e_eqS, e_neS, e_eqB, e_neB, e_eqNI, e_neNI, e_isNN, e_isIN, e_isSN, e_isBN, e_isTN, e_isLN, e_isON, e_isntNN, e_isntIN, e_isntSN, e_isntTN, e_isntLN, e_isntON, e_min2, e_max2, e_int1, e_int1b, e_lenL, e_lenT, e_lenKT, e_lenS, e_lenScr, e_listL, e_listT, e_outT, e_outF, e_slL, e_slT, e_ixL, e_ixT, e_ixKT, e_ixScr, e_isi1, e_isi2, e_tyN, e_tyB, e_tyI, e_tyS, e_tyL, e_tyT, e_tyKT, e_k_NoneType_int, e_k_NoneType_bool, e_k_NoneType_str, e_k_NoneType_list, e_k_NoneType_tuple, e_k_NoneType_dict, e_k_bool_int, e_k_bool_bool, e_k_bool_str, e_k_bool_list, e_k_bool_tuple, e_k_bool_dict, e_k_int_int, e_k_int_bool, e_k_int_str, e_k_int_list, e_k_int_tuple, e_k_int_dict, e_k_str_int, e_k_str_bool, e_k_str_str, e_k_str_list, e_k_str_tuple, e_k_str_dict, e_k_list_int, e_k_list_bool, e_k_list_str, e_k_list_list, e_k_list_tuple, e_k_list_dict, e_k_tuple_int, e_k_tuple_bool, e_k_tuple_str, e_k_tuple_list, e_k_tuple_tuple, e_k_tuple_dict, e_k_dict_int, e_k_dict_bool, e_k_dict_str, e_k_dict_list, e_k_dict_tuple, e_k_dict_dict, List.getElem?_cons_zero, List.getElem?_cons_succ, List.set_cons_zero, List.set_cons_succ, decide_true, decide_false, Bool.not_true, Bool.not_false, if_true, if_false, ite_true, ite_false, Bool.false_eq_true, true_and, and_true, truD, eq_self, Int.zero_add]
  refine ⟨ns, rfl, fun ms => ?_⟩
  refine ⟨fits_small (by simp), ?_⟩
  subst hM
  refine seqG fun M hM => ?_
  simp only [e_var, e_C, e_op, e_un, e_test, e_tru, e_and, e_or, e_not, e_andV, e_orV, e_notV, e_if, e_nil, e_cons, e_lst, e_lstM, e_tup, e_N, e_R1, e_R2, e_call, e_meth, e_make, e_fld, e_bm, e_noPart, e_part, e_sl, e_yes, e_lc, e_seqI, e_goL, e_goScr, e_rng1, e_rng2, e_next, e_seq, e_set, e_asg, e_exp, e_ret, e_retN, e_sif, e_brk, e_cnt, e_sub, e_augsub, e_aug, e_sfld, e_augfld, e_for, e_chain, e_add, e_addI, e_addL, e_addT, e_addS, e_subI, e_mul, e_mulI, e_fdiv, e_mod, e_pow, e_shl, e_shr, e_band, e_bor, e_bxor, e_lt, e_le, e_gt, e_ge, e_neg, e_eqI, e_neI, e_eqS, e_neS, e_eqB, e_neB, e_eqNI, e_neNI, e_isNN, e_isIN, e_isSN, e_isBN, e_isTN, e_isLN, e_isON, e_isntNN, e_isntIN, e_isntSN, e_isntTN, e_isntLN, e_isntON, e_min2, e_max2, e_int1, e_int1b, e_lenL, e_lenT, e_lenKT, e_lenS, e_lenScr, e_listL, e_listT, e_outT, e_outF, e_slL, e_slT, e_ixL, e_ixT, e_ixKT, e_ixScr, e_isi1, e_isi2, e_tyN, e_tyB, e_tyI, e_tyS, e_tyL, e_tyT, e_tyKT, e_k_NoneType_int, e_k_NoneType_bool, e_k_NoneType_str, e_k_NoneType_list, e_k_NoneType_tuple, e_k_NoneType_dict, e_k_bool_int, e_k_bool_bool, e_k_bool_str, e_k_bool_list, e_k_bool_tuple, e_k_bool_dict, e_k_int_int, e_k_int_bool, e_k_int_str, e_k_int_list, e_k_int_tuple, e_k_int_dict, e_k_str_int, e_k_str_bool, e_k_str_str, e_k_str_list, e_k_str_tuple, e_k_str_dict, e_k_list_int, e_k_list_bool, e_k_list_str, e_k_list_list, e_k_list_tuple, e_k_list_dict, e_k_tuple_int, e_k_tuple_bool, e_k_tuple_str, e_k_tuple_list, e_k_tuple_tuple, e_k_tuple_dict, e_k_dict_int, e_k_dict_bool, e_k_dict_str, e_k_dict_list, e_k_dict_tuple, e_k_dict_dict, List.getElem?_cons_zero, List.getElem?_cons_succ, List.set_cons_zero, List.set_cons_succ, decide_true, decide_false, Bool.not_true, Bool.not_false, if_true, if_false, ite_true, ite_false, Bool.false_eq_true, true_and, and_true, truD, eq_self, Int.zero_add]
  refine ⟨_, rfl, rfl, rfl, by simp, ?_⟩
  subst hM
  refine seqG fun M hM => ?_
  simp only [e_var, e_C, e_op, e_un, e_test, e_tru, e_and, e_or, e_not, e_andV, e_orV, e_notV, e_if, e_nil, e_cons, e_lst, e_lstM, e_tup, e_N, e_R1, e_R2, e_call, e_meth, e_make, e_fld, e_bm, e_noPart, e_part, e_sl, e_yes, e_lc, e_seqI, e_goL, e_goScr, e_rng1, e_rng2, e_next, e_seq, e_set, e_asg, e_exp, e_ret, e_retN, e_sif, e_brk, e_cnt, e_sub, e_augsub, e_aug, e_sfld, e_augfld, e_for, e_chain, e_add, e_addI, e_addL, e_addT, e_addS, e_subI, e_mul, e_mulI, e_fdiv, e_mod, e_pow, e_shl, e_shr, e_band, e_bor, e_bxor, e_lt, e_le, e_gt, e_ge, e_neg, e_eqI, e_neI, e_eqS, e_neS, e_eqB, e_neB, e_eqNI, e_neNI, e_isNN, e_isIN, e_isSN, e_isBN, e_isTN, e_isLN, e_isON, e_isntNN, e_isntIN, e_isntSN, e_isntTN, e_isntLN, e_isntON, e_min2, e_max2, e_int1, e_int1b, e_lenL, e_lenT, e_lenKT, e_lenS, e_lenScr, e_listL, e_listT, e_outT, e_outF, e_slL, e_slT, e_ixL, e_ixT, e_ixKT, e_ixScr, e_isi1, e_isi2, e_tyN, e_tyB, e_tyI, e_tyS, e_tyL, e_tyT, e_tyKT, e_k_NoneType_int, e_k_NoneType_bool, e_k_NoneType_str, e_k_NoneType_list, e_k_NoneType_tuple, e_k_NoneType_dict, e_k_bool_int, e_k_bool_bool, e_k_bool_str, e_k_bool_list, e_k_bool_tuple, e_k_bool_dict, e_k_int_int, e_k_int_bool, e_k_int_str, e_k_int_list, e_k_int_tuple, e_k_int_dict, e_k_str_int, e_k_str_bool, e_k_str_str, e_k_str_list, e_k_str_tuple, e_k_str_dict, e_k_list_int, e_k_list_bool, e_k_list_str, e_k_list_list, e_k_list_tuple, e_k_list_dict, e_k_tuple_int, e_k_tuple_bool, e_k_tuple_str, e_k_tuple_list, e_k_tuple_tuple, e_k_tuple_dict, e_k_dict_int, e_k_dict_bool, e_k_dict_str, e_k_dict_list, e_k_dict_tuple, e_k_dict_dict, List.getElem?_cons_zero, List.getElem?_cons_succ, List.set_cons_zero, List.set_cons_succ, decide_true, decide_false, Bool.not_true, Bool.not_false, if_true, if_false, ite_true, ite_false, Bool.false_eq_true, true_and, and_true, truD, eq_self, Int.zero_add]
  refine ⟨fits_small (by simp), ?_⟩
  subst hM
  refine seqG fun M hM => ?_
  simp only [e_var, e_C, e_op, e_un, e_test, e_tru, e_and, e_or, e_not, e_andV, e_orV, e_notV, e_if, e_nil, e_cons, e_lst, e_lstM, e_tup, e_N, e_R1, e_R2, e_call, e_meth, e_make, e_fld, e_bm, e_noPart, e_part, e_sl, e_yes, e_lc, e_seqI, e_goL, e_goScr, e_rng1, e_rng2, e_next, e_seq, e_set, e_asg, e_exp, e_ret, e_retN, e_sif, e_brk, e_cnt, e_sub, e_augsub, e_aug, e_sfld, e_augfld, e_for, e_chain, e_add, e_addI, e_addL, e_addT, e_addS, e_subI, e_mul, e_mulI, e_fdiv, e_mod, e_pow, e_shl, e_shr, e_band, e_bor, e_bxor, e_lt, e_le, e_gt, e_ge, e_neg, e_eqI, e_neI, e_eqS, e_neS, e_eqB, e_neB, e_eqNI, e_neNI, e_isNN, e_isIN, e_isSN, e_isBN, e_isTN, e_isLN, e_isON, e_isntNN, e_isntIN, e_isntSN, e_isntTN, e_isntLN, e_isntON, e_min2, e_max2, e_int1, e_int1b, e_lenL, e_lenT, e_lenKT, e_lenS, e_lenScr, e_listL, e_listT, e_outT, e_outF, e_slL, e_slT, e_ixL, e_ixT, e_ixKT, e_ixScr, e_isi1, e_isi2, e_tyN, e_tyB, e_tyI, e_tyS, e_tyL, e_tyT, e_tyKT, e_k_NoneType_int, e_k_NoneType_bool, e_k_NoneType_str, e_k_NoneType_list, e_k_NoneType_tuple, e_k_NoneType_dict, e_k_bool_int, e_k_bool_bool, e_k_bool_str, e_k_bool_list, e_k_bool_tuple, e_k_bool_dict, e_k_int_int, e_k_int_bool, e_k_int_str, e_k_int_list, e_k_int_tuple, e_k_int_dict, e_k_str_int, e_k_str_bool, e_k_str_str, e_k_str_list, e_k_str_tuple, e_k_str_dict, e_k_list_int, e_k_list_bool, e_k_list_str, e_k_list_list, e_k_list_tuple, e_k_list_dict, e_k_tuple_int, e_k_tuple_bool, e_k_tuple_str, e_k_tuple_list, e_k_tuple_tuple, e_k_tuple_dict, e_k_dict_int, e_k_dict_bool, e_k_dict_str, e_k_dict_list, e_k_dict_tuple, e_k_dict_dict, List.getElem?_cons_zero, List.getElem?_cons_succ, List.set_cons_zero, List.set_cons_succ, decide_true, decide_false, Bool.not_true, Bool.not_false, if_true, if_false, ite_true, ite_false, Bool.false_eq_true, true_and, and_true, truD, eq_self, Int.zero_add]
  refine ⟨fits_small (by simp), ?_⟩
  subst hM
  refine seqG fun M hM => ?_
  simp only [e_var, e_C, e_op, e_un, e_test, e_tru, e_and, e_or, e_not, e_andV, e_orV, e_notV, e_if, e_nil, e_cons, e_lst, e_lstM, e_tup, e_N, e_R1, e_R2, e_call, e_meth, e_make, e_fld, e_bm, e_noPart, e_part, e_sl, e_yes, e_lc, e_seqI, e_goL, e_goScr, e_rng1, e_rng2, e_next, e_seq, e_set, e_asg, e_exp, e_ret, e_retN, e_sif, e_brk, e_cnt, e_sub, e_augsub, e_aug, e_sfld, e_augfld, e_for, e_chain, e_add, e_addI, e_addL, e_addT, e_addS, e_subI, e_mul, e_mulI, e_fdiv, e_mod, e_pow, e_shl, e_shr, e_band, e_bor, e_bxor, e_lt, e_le, e_gt, e_ge, e_neg, e_eqI, e_neI, e_eqS, e_neS, e_eqB, e_neB, e_eqNI, e_neNI, e_isNN, e_isIN, e_isSN, e_isBN, e_isTN, e_isLN, e_isON, e_isntNN, e_isntIN, e_isntSN, e_isntTN, e_isntLN, e_isntON, e_min2, e_max2, e_int1, e_int1b, e_lenL, e_lenT, e_lenKT, e_lenS, e_lenScr, e_listL, e_listT, e_outT, e_outF, e_slL, e_slT, e_ixL, e_ixT, e_ixKT, e_ixScr, e_isi1, e_isi2, e_tyN, e_tyB, e_tyI, e_tyS, e_tyL, e_tyT, e_tyKT, e_k_NoneType_int, e_k_NoneType_bool, e_k_NoneType_str, e_k_NoneType_list, e_k_NoneType_tuple, e_k_NoneType_dict, e_k_bool_int, e_k_bool_bool, e_k_bool_str, e_k_bool_list, e_k_bool_tuple, e_k_bool_dict, e_k_int_int, e_k_int_bool, e_k_int_str, e_k_int_list, e_k_int_tuple, e_k_int_dict, e_k_str_int, e_k_str_bool, e_k_str_str, e_k_str_list, e_k_str_tuple, e_k_str_dict, e_k_list_int, e_k_list_bool, e_k_list_str, e_k_list_list, e_k_list_tuple, e_k_list_dict, e_k_tuple_int, e_k_tuple_bool, e_k_tuple_str, e_k_tuple_list, e_k_tuple_tuple, e_k_tuple_dict, e_k_dict_int, e_k_dict_bool, e_k_dict_str, e_k_dict_list, e_k_dict_tuple, e_k_dict_dict, List.getElem?_cons_zero, List.getElem?_cons_succ, List.set_cons_zero, List.set_cons_succ, decide_true, decide_false, Bool.not_true, Bool.not_false, if_true, if_false, ite_true, ite_false, Bool.false_eq_true, true_and, and_true, truD, eq_self, Int.zero_add]
  refine ⟨_, rfl, rfl, rfl, by simp, ?_⟩
  subst hM
  refine seqG fun M hM => ?_
  simp only [e_var, e_C, e_op, e_un, e_test, e_tru, e_and, e_or, e_not, e_andV, e_orV, e_notV, e_if, e_nil, e_cons, e_lst, e_lstM, e_tup, e_N, e_R1, e_R2, e_call, e_meth, e_make, e_fld, e_bm, e_noPart, e_part, e_sl, e_yes, e_lc, e_seqI, e_goL, e_goScr, e_rng1, e_rng2, e_next, e_seq, e_set, e_asg, e_exp, e_ret, e_retN, e_sif, e_brk, e_cnt, e_sub, e_augsub, e_aug, e_sfld, e_augfld, e_for, e_chain, e_add, e_addI, e_addL, e_addT, e_addS, e_subI, e_mul, e_mulI, e_fdiv, e_mod, e_pow, e_shl, e_shr, e_band, e_bor, e_bxor, e_lt, e_le, e_gt, e_ge, e_neg, e_eqI, e_neI, e_eqS, e_neS, e_eqB, e_neB, e_eqNI, e_neNI, e_isNN, e_isIN, e_isSN, e_isBN, e_isTN, e_isLN, e_isON, e_isntNN, e_isntIN, e_isntSN, e_isntTN, e_isntLN, e_isntON, e_min2, e_max2, e_int1, e_int1b, e_lenL, e_lenT, e_lenKT, e_lenS, e_lenScr, e_listL, e_listT, e_outT, e_outF, e_slL, e_slT, e_ixL, e_ixT, e_ixKT, e_ixScr, e_isi1, e_isi2, e_tyN, e_tyB, e_tyI, e_tyS, e_tyL, e_tyT, e_tyKT, e_k_NoneType_int, e_k_NoneType_bool, e_k_NoneType_str, e_k_NoneType_list, e_k_NoneType_tuple, e_k_NoneType_dict, e_k_bool_int, e_k_bool_bool, e_k_bool_str, e_k_bool_list, e_k_bool_tuple, e_k_bool_dict, e_k_int_int, e_k_int_bool, e_k_int_str, e_k_int_list, e_k_int_tuple, e_k_int_dict, e_k_str_int, e_k_str_bool, e_k_str_str, e_k_str_list, e_k_str_tuple, e_k_str_dict, e_k_list_int, e_k_list_bool, e_k_list_str, e_k_list_list, e_k_list_tuple, e_k_list_dict, e_k_tuple_int, e_k_tuple_bool, e_k_tuple_str, e_k_tuple_list, e_k_tuple_tuple, e_k_tuple_dict, e_k_dict_int, e_k_dict_bool, e_k_dict_str, e_k_dict_list, e_k_dict_tuple, e_k_dict_dict, List.getElem?_cons_zero, List.getElem?_cons_succ, List.set_cons_zero, List.set_cons_succ, decide_true, decide_false, Bool.not_true, Bool.not_false, if_true, if_false, ite_true, ite_false, Bool.false_eq_true, true_and, and_true, truD, eq_self, Int.zero_add]
  refine ⟨_, rfl, rfl, rfl, by simp, ?_⟩
  suffices H : M [some (.scr ns), some (.loc 0), some (.loc 1), some (.lst (dI [])), some (.lst (([] : List Stp).map encL)), some (.loc 3), some (.loc 5), none, none]
      [stv ms 20, .obj 0 [.lst (dI []), .loc 2], .lst [], .obj 0 [.lst (dI []), .loc 4], .lst [], .obj 0 [.lst (dI []), .loc 6], .lst []] from H
  subst hM
  refine seqG fun M hM => ?_
  simp only [e_var, e_C, e_op, e_un, e_test, e_tru, e_and, e_or, e_not, e_andV, e_orV, e_notV, e_if, e_nil, e_cons, e_lst, e_lstM, e_tup, e_N, e_R1, e_R2, e_call, e_meth, e_make, e_fld, e_bm, e_noPart, e_part, e_sl, e_yes, e_lc, e_seqI, e_goL, e_goScr, e_rng1, e_rng2, e_next, e_seq, e_set, e_asg, e_exp, e_ret, e_retN, e_sif, e_brk, e_cnt, e_sub, e_augsub, e_aug, e_sfld, e_augfld, e_for, e_chain, e_add, e_addI, e_addL, e_addT, e_addS, e_subI, e_mul, e_mulI, e_fdiv, e_mod, e_pow, e_shl, e_shr, e_band, e_bor, e_bxor, e_lt, e_le, e_gt, e_ge, e_neg, e_eqI, e_neI, e_eqS, e_neS, e_eqB, e_neB, e_eqNI, e_neNI, e_isNN, e_isIN, e_isSN, e_isBN, e_isTN, e_isLN, e_isON, e_isntNN, e_isntIN, e_isntSN, e_isntTN, e_isntLN, e_isntON, e_min2, e_max2, e_int1, e_int1b, e_lenL, e_lenT, e_lenKT, e_lenS, e_lenScr, e_listL, e_listT, e_outT, e_outF, e_slL, e_slT, e_ixL, e_ixT, e_ixKT, e_ixScr, e_isi1, e_isi2, e_tyN, e_tyB, e_tyI, e_tyS, e_tyL, e_tyT, e_tyKT, e_k_NoneType_int, e_k_NoneType_bool, e_k_NoneType_str, e_k_NoneType_list, e_k_NoneType_tuple, e_k_NoneType_dict, e_k_bool_int, e_k_bool_bool, e_k_bool_str, e_k_bool_list, e_k_bool_tuple, e_k_bool_dict, e_k_int_int, e_k_int_bool, e_k_int_str, e_k_int_list, e_k_int_tuple, e_k_int_dict, e_k_str_int, e_k_str_bool, e_k_str_str, e_k_str_list, e_k_str_tuple, e_k_str_dict, e_k_list_int, e_k_list_bool, e_k_list_str, e_k_list_list, e_k_list_tuple, e_k_list_dict, e_k_tuple_int, e_k_tuple_bool, e_k_tuple_str, e_k_tuple_list, e_k_tuple_tuple, e_k_tuple_dict, e_k_dict_int, e_k_dict_bool, e_k_dict_str, e_k_dict_list, e_k_dict_tuple, e_k_dict_dict, List.getElem?_cons_zero, List.getElem?_cons_succ, List.set_cons_zero, List.set_cons_succ, decide_true, decide_false, Bool.not_true, Bool.not_false, if_true, if_false, ite_true, ite_false, Bool.false_eq_true, true_and, and_true, truD, eq_self, Int.zero_add]
  refine ⟨rfl, fits_small (by simp), ⟨5, 6, [], [], .lst (dI [1, 2]), [1, 2], .non, rfl, ⟨rfl, rfl, by decide⟩, rfl, True.intro, fits_small (by simp), ?_⟩⟩
  subst hM
  refine seqG fun M hM => ?_
  simp only [e_var, e_C, e_op, e_un, e_test, e_tru, e_and, e_or, e_not, e_andV, e_orV, e_notV, e_if, e_nil, e_cons, e_lst, e_lstM, e_tup, e_N, e_R1, e_R2, e_call, e_meth, e_make, e_fld, e_bm, e_noPart, e_part, e_sl, e_yes, e_lc, e_seqI, e_goL, e_goScr, e_rng1, e_rng2, e_next, e_seq, e_set, e_asg, e_exp, e_ret, e_retN, e_sif, e_brk, e_cnt, e_sub, e_augsub, e_aug, e_sfld, e_augfld, e_for, e_chain, e_add, e_addI, e_addL, e_addT, e_addS, e_subI, e_mul, e_mulI, e_fdiv, e_mod, e_pow, e_shl, e_shr, e_band, e_bor, e_bxor, e_lt, e_le, e_gt, e_ge, e_neg, e_eqI, e_neI, e_eqS, e_neS, e_eqB, e_neB, e_eqNI, e_neNI, e_isNN, e_isIN, e_isSN, e_isBN, e_isTN, e_isLN, e_isON, e_isntNN, e_isntIN, e_isntSN, e_isntTN, e_isntLN, e_isntON, e_min2, e_max2, e_int1, e_int1b, e_lenL, e_lenT, e_lenKT, e_lenS, e_lenScr, e_listL, e_listT, e_outT, e_outF, e_slL, e_slT, e_ixL, e_ixT, e_ixKT, e_ixScr, e_isi1, e_isi2, e_tyN, e_tyB, e_tyI, e_tyS, e_tyL, e_tyT, e_tyKT, e_k_NoneType_int, e_k_NoneType_bool, e_k_NoneType_str, e_k_NoneType_list, e_k_NoneType_tuple, e_k_NoneType_dict, e_k_bool_int, e_k_bool_bool, e_k_bool_str, e_k_bool_list, e_k_bool_tuple, e_k_bool_dict, e_k_int_int, e_k_int_bool, e_k_int_str, e_k_int_list, e_k_int_tuple, e_k_int_dict, e_k_str_int, e_k_str_bool, e_k_str_str, e_k_str_list, e_k_str_tuple, e_k_str_dict, e_k_list_int, e_k_list_bool, e_k_list_str, e_k_list_list, e_k_list_tuple, e_k_list_dict, e_k_tuple_int, e_k_tuple_bool, e_k_tuple_str, e_k_tuple_list, e_k_tuple_tuple, e_k_tuple_dict, e_k_dict_int, e_k_dict_bool, e_k_dict_str, e_k_dict_list, e_k_dict_tuple, e_k_dict_dict, List.getElem?_cons_zero, List.getElem?_cons_succ, List.set_cons_zero, List.set_cons_succ, decide_true, decide_false, Bool.not_true, Bool.not_false, if_true, if_false, ite_true, ite_false, Bool.false_eq_true, true_and, and_true, truD, eq_self, Int.zero_add]
  refine ⟨rfl, ⟨5, 6, [], [.app 1, .app 2], .non, rfl, ⟨rfl, rfl, by decide⟩, True.intro, fits_small (by simp), (fun h => by cases h), fun _ => ?_⟩⟩
  subst hM
  refine seqG fun M hM => ?_
  simp only [e_var, e_C, e_op, e_un, e_test, e_tru, e_and, e_or, e_not, e_andV, e_orV, e_notV, e_if, e_nil, e_cons, e_lst, e_lstM, e_tup, e_N, e_R1, e_R2, e_call, e_meth, e_make, e_fld, e_bm, e_noPart, e_part, e_sl, e_yes, e_lc, e_seqI, e_goL, e_goScr, e_rng1, e_rng2, e_next, e_seq, e_set, e_asg, e_exp, e_ret, e_retN, e_sif, e_brk, e_cnt, e_sub, e_augsub, e_aug, e_sfld, e_augfld, e_for, e_chain, e_add, e_addI, e_addL, e_addT, e_addS, e_subI, e_mul, e_mulI, e_fdiv, e_mod, e_pow, e_shl, e_shr, e_band, e_bor, e_bxor, e_lt, e_le, e_gt, e_ge, e_neg, e_eqI, e_neI, e_eqS, e_neS, e_eqB, e_neB, e_eqNI, e_neNI, e_isNN, e_isIN, e_isSN, e_isBN, e_isTN, e_isLN, e_isON, e_isntNN, e_isntIN, e_isntSN, e_isntTN, e_isntLN, e_isntON, e_min2, e_max2, e_int1, e_int1b, e_lenL, e_lenT, e_lenKT, e_lenS, e_lenScr, e_listL, e_listT, e_outT, e_outF, e_slL, e_slT, e_ixL, e_ixT, e_ixKT, e_ixScr, e_isi1, e_isi2, e_tyN, e_tyB, e_tyI, e_tyS, e_tyL, e_tyT, e_tyKT, e_k_NoneType_int, e_k_NoneType_bool, e_k_NoneType_str, e_k_NoneType_list, e_k_NoneType_tuple, e_k_NoneType_dict, e_k_bool_int, e_k_bool_bool, e_k_bool_str, e_k_bool_list, e_k_bool_tuple, e_k_bool_dict, e_k_int_int, e_k_int_bool, e_k_int_str, e_k_int_list, e_k_int_tuple, e_k_int_dict, e_k_str_int, e_k_str_bool, e_k_str_str, e_k_str_list, e_k_str_tuple, e_k_str_dict, e_k_list_int, e_k_list_bool, e_k_list_str, e_k_list_list, e_k_list_tuple, e_k_list_dict, e_k_tuple_int, e_k_tuple_bool, e_k_tuple_str, e_k_tuple_list, e_k_tuple_tuple, e_k_tuple_dict, e_k_dict_int, e_k_dict_bool, e_k_dict_str, e_k_dict_list, e_k_dict_tuple, e_k_dict_dict, List.getElem?_cons_zero, List.getElem?_cons_succ, List.set_cons_zero, List.set_cons_succ, decide_true, decide_false, Bool.not_true, Bool.not_false, if_true, if_false, ite_true, ite_false, Bool.false_eq_true, true_and, and_true, truD, eq_self, Int.zero_add]
  refine ⟨rfl, fits_small (by simp), ⟨5, 7, [1, 2], [], .lst (dI [3]), [3], .non, rfl, ⟨rfl, rfl, by decide⟩, rfl, True.intro, fits_small (by simp), ?_⟩⟩
  suffices H : ∀ a, J a 2 3 4 [] [] [] → M [some (.scr ns), some (.loc 0), some (.loc 1), some (.lst (dI [])), some (.lst (([] : List Stp).map encL)), some (.loc 3), some (.loc 5), none, none] a from
    H _ ⟨⟨ms, 20, rfl, by decide⟩, ⟨rfl, rfl, by decide⟩, ⟨rfl, rfl, by decide⟩, ⟨rfl, rfl, by decide⟩, by decide, by decide, by decide, fun s h => by cases h⟩
  subst hM
  intro a j
  refine seqG fun M hM => ?_
  simp only [e_var, e_C, e_op, e_un, e_test, e_tru, e_and, e_or, e_not, e_andV, e_orV, e_notV, e_if, e_nil, e_cons, e_lst, e_lstM, e_tup, e_N, e_R1, e_R2, e_call, e_meth, e_make, e_fld, e_bm, e_noPart, e_part, e_sl, e_yes, e_lc, e_seqI, e_goL, e_goScr, e_rng1, e_rng2, e_next, e_seq, e_set, e_asg, e_exp, e_ret, e_retN, e_sif, e_brk, e_cnt, e_sub, e_augsub, e_aug, e_sfld, e_augfld, e_for, e_chain, e_add, e_addI, e_addL, e_addT, e_addS, e_subI, e_mul, e_mulI, e_fdiv, e_mod, e_pow, e_shl, e_shr, e_band, e_bor, e_bxor, e_lt, e_le, e_gt, e_ge, e_neg, e_eqI, e_neI, e_eqS, e_neS, e_eqB, e_neB, e_eqNI, e_neNI, e_isNN, e_isIN, e_isSN, e_isBN, e_isTN, e_isLN, e_isON, e_isntNN, e_isntIN, e_isntSN, e_isntTN, e_isntLN, e_isntON, e_min2, e_max2, e_int1, e_int1b, e_lenL, e_lenT, e_lenKT, e_lenS, e_lenScr, e_listL, e_listT, e_outT, e_outF, e_slL, e_slT, e_ixL, e_ixT, e_ixKT, e_ixScr, e_isi1, e_isi2, e_tyN, e_tyB, e_tyI, e_tyS, e_tyL, e_tyT, e_tyKT, e_k_NoneType_int, e_k_NoneType_bool, e_k_NoneType_str, e_k_NoneType_list, e_k_NoneType_tuple, e_k_NoneType_dict, e_k_bool_int, e_k_bool_bool, e_k_bool_str, e_k_bool_list, e_k_bool_tuple, e_k_bool_dict, e_k_int_int, e_k_int_bool, e_k_int_str, e_k_int_list, e_k_int_tuple, e_k_int_dict, e_k_str_int, e_k_str_bool, e_k_str_str, e_k_str_list, e_k_str_tuple, e_k_str_dict, e_k_list_int, e_k_list_bool, e_k_list_str, e_k_list_list, e_k_list_tuple, e_k_list_dict, e_k_tuple_int, e_k_tuple_bool, e_k_tuple_str, e_k_tuple_list, e_k_tuple_tuple, e_k_tuple_dict, e_k_dict_int, e_k_dict_bool, e_k_dict_str, e_k_dict_list, e_k_dict_tuple, e_k_dict_dict, List.getElem?_cons_zero, List.getElem?_cons_succ, List.set_cons_zero, List.set_cons_succ, decide_true, decide_false, Bool.not_true, Bool.not_false, if_true, if_false, ite_true, ite_false, Bool.false_eq_true, true_and, and_true, truD, eq_self, Int.zero_add]
  refine nxJ j (by decide) fun v a0 h0 h1 j => ?_
  dsimp only
  refine ⟨by omega, by omega, ?_⟩
  refine forW_inv (I := fun i ρ a => ∃ (k o ko : Nat) (ls : List Int) (ss : List Stp) (x y : Option D), ρ = [some (.scr ns), some (.loc 0), some (.loc 1), some (.lst (dI ls)), some (.lst (ss.map encL)), some (.loc o), some (.loc 5), x, y] ∧ J a k o ko ls ss [] ∧ ls.length + ss.length ≤ 60 * i)
    (fun _ _ _ _ => True.intro) ?_ ?_ ⟨2, 3, 4, [], [], none, none, rfl, j, Nat.le_refl _⟩
  · rintro i d ρ a M1 hd ⟨k, o, ko, ls, ss, x, y, rfl, j, hb⟩ hM1
    obtain ⟨rfl, hi⟩ := rngD_get hd
    have hi31 : i < 31 := by omega
    refine ⟨_, rfl, ?_⟩
    refine seqG fun M2 hM2 => ?_
    refine ifG fun T F hT hF => ?_
    simp only [e_var, e_C, e_op, e_un, e_test, e_tru, e_and, e_or, e_not, e_andV, e_orV, e_notV, e_if, e_nil, e_cons, e_lst, e_lstM, e_tup, e_N, e_R1, e_R2, e_call, e_meth, e_make, e_fld, e_bm, e_noPart, e_part, e_sl, e_yes, e_lc, e_seqI, e_goL, e_goScr, e_rng1, e_rng2, e_next, e_seq, e_set, e_asg, e_exp, e_ret, e_retN, e_sif, e_brk, e_cnt, e_sub, e_augsub, e_aug, e_sfld, e_augfld, e_for, e_chain, e_add, e_addI, e_addL, e_addT, e_addS, e_subI, e_mul, e_mulI, e_fdiv, e_mod, e_pow, e_shl, e_shr, e_band, e_bor, e_bxor, e_lt, e_le, e_gt, e_ge, e_neg, e_eqI, e_neI, e_eqS, e_neS, e_eqB, e_neB, e_eqNI, e_neNI, e_isNN, e_isIN, e_isSN, e_isBN, e_isTN, e_isLN, e_isON, e_isntNN, e_isntIN, e_isntSN, e_isntTN, e_isntLN, e_isntON, e_min2, e_max2, e_int1, e_int1b, e_lenL, e_lenT, e_lenKT, e_lenS, e_lenScr, e_listL, e_listT, e_outT, e_outF, e_slL, e_slT, e_ixL, e_ixT, e_ixKT, e_ixScr, e_isi1, e_isi2, e_tyN, e_tyB, e_tyI, e_tyS, e_tyL, e_tyT, e_tyKT, e_k_NoneType_int, e_k_NoneType_bool, e_k_NoneType_str, e_k_NoneType_list, e_k_NoneType_tuple, e_k_NoneType_dict, e_k_bool_int, e_k_bool_bool, e_k_bool_str, e_k_bool_list, e_k_bool_tuple, e_k_bool_dict, e_k_int_int, e_k_int_bool, e_k_int_str, e_k_int_list, e_k_int_tuple, e_k_int_dict, e_k_str_int, e_k_str_bool, e_k_str_str, e_k_str_list, e_k_str_tuple, e_k_str_dict, e_k_list_int, e_k_list_bool, e_k_list_str, e_k_list_list, e_k_list_tuple, e_k_list_dict, e_k_tuple_int, e_k_tuple_bool, e_k_tuple_str, e_k_tuple_list, e_k_tuple_tuple, e_k_tuple_dict, e_k_dict_int, e_k_dict_bool, e_k_dict_str, e_k_dict_list, e_k_dict_tuple, e_k_dict_dict, List.getElem?_cons_zero, List.getElem?_cons_succ, List.set_cons_zero, List.set_cons_succ, decide_true, decide_false, Bool.not_true, Bool.not_false, if_true, if_false, ite_true, ite_false, Bool.false_eq_true, true_and, and_true, truD, eq_self, Int.zero_add]
    refine nxJ j (by decide) fun v2 a1 _ _ j => ?_
    simp only [e_var, e_C, e_op, e_un, e_test, e_tru, e_and, e_or, e_not, e_andV, e_orV, e_notV, e_if, e_nil, e_cons, e_lst, e_lstM, e_tup, e_N, e_R1, e_R2, e_call, e_meth, e_make, e_fld, e_bm, e_noPart, e_part, e_sl, e_yes, e_lc, e_seqI, e_goL, e_goScr, e_rng1, e_rng2, e_next, e_seq, e_set, e_asg, e_exp, e_ret, e_retN, e_sif, e_brk, e_cnt, e_sub, e_augsub, e_aug, e_sfld, e_augfld, e_for, e_chain, e_add, e_addI, e_addL, e_addT, e_addS, e_subI, e_mul, e_mulI, e_fdiv, e_mod, e_pow, e_shl, e_shr, e_band, e_bor, e_bxor, e_lt, e_le, e_gt, e_ge, e_neg, e_eqI, e_neI, e_eqS, e_neS, e_eqB, e_neB, e_eqNI, e_neNI, e_isNN, e_isIN, e_isSN, e_isBN, e_isTN, e_isLN, e_isON, e_isntNN, e_isntIN, e_isntSN, e_isntTN, e_isntLN, e_isntON, e_min2, e_max2, e_int1, e_int1b, e_lenL, e_lenT, e_lenKT, e_lenS, e_lenScr, e_listL, e_listT, e_outT, e_outF, e_slL, e_slT, e_ixL, e_ixT, e_ixKT, e_ixScr, e_isi1, e_isi2, e_tyN, e_tyB, e_tyI, e_tyS, e_tyL, e_tyT, e_tyKT, e_k_NoneType_int, e_k_NoneType_bool, e_k_NoneType_str, e_k_NoneType_list, e_k_NoneType_tuple, e_k_NoneType_dict, e_k_bool_int, e_k_bool_bool, e_k_bool_str, e_k_bool_list, e_k_bool_tuple, e_k_bool_dict, e_k_int_int, e_k_int_bool, e_k_int_str, e_k_int_list, e_k_int_tuple, e_k_int_dict, e_k_str_int, e_k_str_bool, e_k_str_str, e_k_str_list, e_k_str_tuple, e_k_str_dict, e_k_list_int, e_k_list_bool, e_k_list_str, e_k_list_list, e_k_list_tuple, e_k_list_dict, e_k_tuple_int, e_k_tuple_bool, e_k_tuple_str, e_k_tuple_list, e_k_tuple_tuple, e_k_tuple_dict, e_k_dict_int, e_k_dict_bool, e_k_dict_str, e_k_dict_list, e_k_dict_tuple, e_k_dict_dict, List.getElem?_cons_zero, List.getElem?_cons_succ, List.set_cons_zero, List.set_cons_succ, decide_true, decide_false, Bool.not_true, Bool.not_false, if_true, if_false, ite_true, ite_false, Bool.false_eq_true, true_and, and_true, truD, eq_self, Int.zero_add]
    suffices H : ∀ a o ko, J a k o ko ls ss [] → M2 [some (.scr ns), some (.loc 0), some (.loc 1), some (.lst (dI ls)), some (.lst (ss.map encL)), some (.loc o), some (.loc 5), some (.int i), y] a by
      split
      · subst hT
        refine seqG fun M3 hM3 => ?_
        simp only [e_var, e_C, e_op, e_un, e_test, e_tru, e_and, e_or, e_not, e_andV, e_orV, e_notV, e_if, e_nil, e_cons, e_lst, e_lstM, e_tup, e_N, e_R1, e_R2, e_call, e_meth, e_make, e_fld, e_bm, e_noPart, e_part, e_sl, e_yes, e_lc, e_seqI, e_goL, e_goScr, e_rng1, e_rng2, e_next, e_seq, e_set, e_asg, e_exp, e_ret, e_retN, e_sif, e_brk, e_cnt, e_sub, e_augsub, e_aug, e_sfld, e_augfld, e_for, e_chain, e_add, e_addI, e_addL, e_addT, e_addS, e_subI, e_mul, e_mulI, e_fdiv, e_mod, e_pow, e_shl, e_shr, e_band, e_bor, e_bxor, e_lt, e_le, e_gt, e_ge, e_neg, e_eqI, e_neI, e_eqS, e_neS, e_eqB, e_neB, e_eqNI, e_neNI, e_isNN, e_isIN, e_isSN, e_isBN, e_isTN, e_isLN, e_isON, e_isntNN, e_isntIN, e_isntSN, e_isntTN, e_isntLN, e_isntON, e_min2, e_max2, e_int1, e_int1b, e_lenL, e_lenT, e_lenKT, e_lenS, e_lenScr, e_listL, e_listT, e_outT, e_outF, e_slL, e_slT, e_ixL, e_ixT, e_ixKT, e_ixScr, e_isi1, e_isi2, e_tyN, e_tyB, e_tyI, e_tyS, e_tyL, e_tyT, e_tyKT, e_k_NoneType_int, e_k_NoneType_bool, e_k_NoneType_str, e_k_NoneType_list, e_k_NoneType_tuple, e_k_NoneType_dict, e_k_bool_int, e_k_bool_bool, e_k_bool_str, e_k_bool_list, e_k_bool_tuple, e_k_bool_dict, e_k_int_int, e_k_int_bool, e_k_int_str, e_k_int_list, e_k_int_tuple, e_k_int_dict, e_k_str_int, e_k_str_bool, e_k_str_str, e_k_str_list, e_k_str_tuple, e_k_str_dict, e_k_list_int, e_k_list_bool, e_k_list_str, e_k_list_list, e_k_list_tuple, e_k_list_dict, e_k_tuple_int, e_k_tuple_bool, e_k_tuple_str, e_k_tuple_list, e_k_tuple_tuple, e_k_tuple_dict, e_k_dict_int, e_k_dict_bool, e_k_dict_str, e_k_dict_list, e_k_dict_tuple, e_k_dict_dict, List.getElem?_cons_zero, List.getElem?_cons_succ, List.set_cons_zero, List.set_cons_succ, decide_true, decide_false, Bool.not_true, Bool.not_false, if_true, if_false, ite_true, ite_false, Bool.false_eq_true, true_and, and_true, truD, eq_self, Int.zero_add, e_objV j.fo.1, Option.isSome_some]
        refine ⟨fits_small (by simp), ⟨o, ko, [], [], _, [(i : Int), i + 1, i + 2], .non, rfl, j.fo, rfl, True.intro, fits_small (by simp), ?_⟩⟩
        have j1 := j.oput (so' := [.app i, .app (i + 1), .app (i + 2)])
        suffices H' : ∀ a, J a k o ko ls ss [.app i, .app (i + 1), .app (i + 2)] → M3 [some (.scr ns), some (.loc 0), some (.loc 1), some (.lst (dI ls)), some (.lst (ss.map encL)), some (.loc o), some (.loc 5), some (.int i), y] a from H' _ j1
        subst hM3
        intro a j
        refine seqG fun M3 hM3 => ?_
        refine ifG fun T F hT hF => ?_
        simp only [e_var, e_C, e_op, e_un, e_test, e_tru, e_and, e_or, e_not, e_andV, e_orV, e_notV, e_if, e_nil, e_cons, e_lst, e_lstM, e_tup, e_N, e_R1, e_R2, e_call, e_meth, e_make, e_fld, e_bm, e_noPart, e_part, e_sl, e_yes, e_lc, e_seqI, e_goL, e_goScr, e_rng1, e_rng2, e_next, e_seq, e_set, e_asg, e_exp, e_ret, e_retN, e_sif, e_brk, e_cnt, e_sub, e_augsub, e_aug, e_sfld, e_augfld, e_for, e_chain, e_add, e_addI, e_addL, e_addT, e_addS, e_subI, e_mul, e_mulI, e_fdiv, e_mod, e_pow, e_shl, e_shr, e_band, e_bor, e_bxor, e_lt, e_le, e_gt, e_ge, e_neg, e_eqI, e_neI, e_eqS, e_neS, e_eqB, e_neB, e_eqNI, e_neNI, e_isNN, e_isIN, e_isSN, e_isBN, e_isTN, e_isLN, e_isON, e_isntNN, e_isntIN, e_isntSN, e_isntTN, e_isntLN, e_isntON, e_min2, e_max2, e_int1, e_int1b, e_lenL, e_lenT, e_lenKT, e_lenS, e_lenScr, e_listL, e_listT, e_outT, e_outF, e_slL, e_slT, e_ixL, e_ixT, e_ixKT, e_ixScr, e_isi1, e_isi2, e_tyN, e_tyB, e_tyI, e_tyS, e_tyL, e_tyT, e_tyKT, e_k_NoneType_int, e_k_NoneType_bool, e_k_NoneType_str, e_k_NoneType_list, e_k_NoneType_tuple, e_k_NoneType_dict, e_k_bool_int, e_k_bool_bool, e_k_bool_str, e_k_bool_list, e_k_bool_tuple, e_k_bool_dict, e_k_int_int, e_k_int_bool, e_k_int_str, e_k_int_list, e_k_int_tuple, e_k_int_dict, e_k_str_int, e_k_str_bool, e_k_str_str, e_k_str_list, e_k_str_tuple, e_k_str_dict, e_k_list_int, e_k_list_bool, e_k_list_str, e_k_list_list, e_k_list_tuple, e_k_list_dict, e_k_tuple_int, e_k_tuple_bool, e_k_tuple_str, e_k_tuple_list, e_k_tuple_tuple, e_k_tuple_dict, e_k_dict_int, e_k_dict_bool, e_k_dict_str, e_k_dict_list, e_k_dict_tuple, e_k_dict_dict, List.getElem?_cons_zero, List.getElem?_cons_succ, List.set_cons_zero, List.set_cons_succ, decide_true, decide_false, Bool.not_true, Bool.not_false, if_true, if_false, ite_true, ite_false, Bool.false_eq_true, true_and, and_true, truD, eq_self, Int.zero_add, e_objV j.fo.1, Option.isSome_some]
        refine ⟨o, ko, [], _, rfl, j.fo, fits_small (by simp), ?_⟩
        refine ⟨fits_small (by simp), sameL (xs := [(i : Int), i + 1, i + 2]) (by simp) ?_⟩
        simp only [e_var, e_C, e_op, e_un, e_test, e_tru, e_and, e_or, e_not, e_andV, e_orV, e_notV, e_if, e_nil, e_cons, e_lst, e_lstM, e_tup, e_N, e_R1, e_R2, e_call, e_meth, e_make, e_fld, e_bm, e_noPart, e_part, e_sl, e_yes, e_lc, e_seqI, e_goL, e_goScr, e_rng1, e_rng2, e_next, e_seq, e_set, e_asg, e_exp, e_ret, e_retN, e_sif, e_brk, e_cnt, e_sub, e_augsub, e_aug, e_sfld, e_augfld, e_for, e_chain, e_add, e_addI, e_addL, e_addT, e_addS, e_subI, e_mul, e_mulI, e_fdiv, e_mod, e_pow, e_shl, e_shr, e_band, e_bor, e_bxor, e_lt, e_le, e_gt, e_ge, e_neg, e_eqI, e_neI, e_eqS, e_neS, e_eqB, e_neB, e_eqNI, e_neNI, e_isNN, e_isIN, e_isSN, e_isBN, e_isTN, e_isLN, e_isON, e_isntNN, e_isntIN, e_isntSN, e_isntTN, e_isntLN, e_isntON, e_min2, e_max2, e_int1, e_int1b, e_lenL, e_lenT, e_lenKT, e_lenS, e_lenScr, e_listL, e_listT, e_outT, e_outF, e_slL, e_slT, e_ixL, e_ixT, e_ixKT, e_ixScr, e_isi1, e_isi2, e_tyN, e_tyB, e_tyI, e_tyS, e_tyL, e_tyT, e_tyKT, e_k_NoneType_int, e_k_NoneType_bool, e_k_NoneType_str, e_k_NoneType_list, e_k_NoneType_tuple, e_k_NoneType_dict, e_k_bool_int, e_k_bool_bool, e_k_bool_str, e_k_bool_list, e_k_bool_tuple, e_k_bool_dict, e_k_int_int, e_k_int_bool, e_k_int_str, e_k_int_list, e_k_int_tuple, e_k_int_dict, e_k_str_int, e_k_str_bool, e_k_str_str, e_k_str_list, e_k_str_tuple, e_k_str_dict, e_k_list_int, e_k_list_bool, e_k_list_str, e_k_list_list, e_k_list_tuple, e_k_list_dict, e_k_tuple_int, e_k_tuple_bool, e_k_tuple_str, e_k_tuple_list, e_k_tuple_tuple, e_k_tuple_dict, e_k_dict_int, e_k_dict_bool, e_k_dict_str, e_k_dict_list, e_k_dict_tuple, e_k_dict_dict, List.getElem?_cons_zero, List.getElem?_cons_succ, List.set_cons_zero, List.set_cons_succ, decide_true, decide_false, Bool.not_true, Bool.not_false, if_true, if_false, ite_true, ite_false, Bool.false_eq_true, true_and, and_true, truD, eq_self, Int.zero_add, e_objV j.fo.1, Option.isSome_some]
        refine ⟨o, ko, [], _, rfl, j.fo, sameI ?_⟩
        simp only [e_var, e_C, e_op, e_un, e_test, e_tru, e_and, e_or, e_not, e_andV, e_orV, e_notV, e_if, e_nil, e_cons, e_lst, e_lstM, e_tup, e_N, e_R1, e_R2, e_call, e_meth, e_make, e_fld, e_bm, e_noPart, e_part, e_sl, e_yes, e_lc, e_seqI, e_goL, e_goScr, e_rng1, e_rng2, e_next, e_seq, e_set, e_asg, e_exp, e_ret, e_retN, e_sif, e_brk, e_cnt, e_sub, e_augsub, e_aug, e_sfld, e_augfld, e_for, e_chain, e_add, e_addI, e_addL, e_addT, e_addS, e_subI, e_mul, e_mulI, e_fdiv, e_mod, e_pow, e_shl, e_shr, e_band, e_bor, e_bxor, e_lt, e_le, e_gt, e_ge, e_neg, e_eqI, e_neI, e_eqS, e_neS, e_eqB, e_neB, e_eqNI, e_neNI, e_isNN, e_isIN, e_isSN, e_isBN, e_isTN, e_isLN, e_isON, e_isntNN, e_isntIN, e_isntSN, e_isntTN, e_isntLN, e_isntON, e_min2, e_max2, e_int1, e_int1b, e_lenL, e_lenT, e_lenKT, e_lenS, e_lenScr, e_listL, e_listT, e_outT, e_outF, e_slL, e_slT, e_ixL, e_ixT, e_ixKT, e_ixScr, e_isi1, e_isi2, e_tyN, e_tyB, e_tyI, e_tyS, e_tyL, e_tyT, e_tyKT, e_k_NoneType_int, e_k_NoneType_bool, e_k_NoneType_str, e_k_NoneType_list, e_k_NoneType_tuple, e_k_NoneType_dict, e_k_bool_int, e_k_bool_bool, e_k_bool_str, e_k_bool_list, e_k_bool_tuple, e_k_bool_dict, e_k_int_int, e_k_int_bool, e_k_int_str, e_k_int_list, e_k_int_tuple, e_k_int_dict, e_k_str_int, e_k_str_bool, e_k_str_str, e_k_str_list, e_k_str_tuple, e_k_str_dict, e_k_list_int, e_k_list_bool, e_k_list_str, e_k_list_list, e_k_list_tuple, e_k_list_dict, e_k_tuple_int, e_k_tuple_bool, e_k_tuple_str, e_k_tuple_list, e_k_tuple_tuple, e_k_tuple_dict, e_k_dict_int, e_k_dict_bool, e_k_dict_str, e_k_dict_list, e_k_dict_tuple, e_k_dict_dict, List.getElem?_cons_zero, List.getElem?_cons_succ, List.set_cons_zero, List.set_cons_succ, decide_true, decide_false, Bool.not_true, Bool.not_false, if_true, if_false, ite_true, ite_false, Bool.false_eq_true, true_and, and_true, truD, eq_self, Int.zero_add]
        subst hF
        simp only [e_var, e_C, e_op, e_un, e_test, e_tru, e_and, e_or, e_not, e_andV, e_orV, e_notV, e_if, e_nil, e_cons, e_lst, e_lstM, e_tup, e_N, e_R1, e_R2, e_call, e_meth, e_make, e_fld, e_bm, e_noPart, e_part, e_sl, e_yes, e_lc, e_seqI, e_goL, e_goScr, e_rng1, e_rng2, e_next, e_seq, e_set, e_asg, e_exp, e_ret, e_retN, e_sif, e_brk, e_cnt, e_sub, e_augsub, e_aug, e_sfld, e_augfld, e_for, e_chain, e_add, e_addI, e_addL, e_addT, e_addS, e_subI, e_mul, e_mulI, e_fdiv, e_mod, e_pow, e_shl, e_shr, e_band, e_bor, e_bxor, e_lt, e_le, e_gt, e_ge, e_neg, e_eqI, e_neI, e_eqS, e_neS, e_eqB, e_neB, e_eqNI, e_neNI, e_isNN, e_isIN, e_isSN, e_isBN, e_isTN, e_isLN, e_isON, e_isntNN, e_isntIN, e_isntSN, e_isntTN, e_isntLN, e_isntON, e_min2, e_max2, e_int1, e_int1b, e_lenL, e_lenT, e_lenKT, e_lenS, e_lenScr, e_listL, e_listT, e_outT, e_outF, e_slL, e_slT, e_ixL, e_ixT, e_ixKT, e_ixScr, e_isi1, e_isi2, e_tyN, e_tyB, e_tyI, e_tyS, e_tyL, e_tyT, e_tyKT, e_k_NoneType_int, e_k_NoneType_bool, e_k_NoneType_str, e_k_NoneType_list, e_k_NoneType_tuple, e_k_NoneType_dict, e_k_bool_int, e_k_bool_bool, e_k_bool_str, e_k_bool_list, e_k_bool_tuple, e_k_bool_dict, e_k_int_int, e_k_int_bool, e_k_int_str, e_k_int_list, e_k_int_tuple, e_k_int_dict, e_k_str_int, e_k_str_bool, e_k_str_str, e_k_str_list, e_k_str_tuple, e_k_str_dict, e_k_list_int, e_k_list_bool, e_k_list_str, e_k_list_list, e_k_list_tuple, e_k_list_dict, e_k_tuple_int, e_k_tuple_bool, e_k_tuple_str, e_k_tuple_list, e_k_tuple_tuple, e_k_tuple_dict, e_k_dict_int, e_k_dict_bool, e_k_dict_str, e_k_dict_list, e_k_dict_tuple, e_k_dict_dict, List.getElem?_cons_zero, List.getElem?_cons_succ, List.set_cons_zero, List.set_cons_succ, decide_true, decide_false, Bool.not_true, Bool.not_false, if_true, if_false, ite_true, ite_false, Bool.false_eq_true, true_and, and_true, truD, eq_self, Int.zero_add]
        subst hM3
        refine seqG fun M3 hM3 => ?_
        simp only [e_var, e_C, e_op, e_un, e_test, e_tru, e_and, e_or, e_not, e_andV, e_orV, e_notV, e_if, e_nil, e_cons, e_lst, e_lstM, e_tup, e_N, e_R1, e_R2, e_call, e_meth, e_make, e_fld, e_bm, e_noPart, e_part, e_sl, e_yes, e_lc, e_seqI, e_goL, e_goScr, e_rng1, e_rng2, e_next, e_seq, e_set, e_asg, e_exp, e_ret, e_retN, e_sif, e_brk, e_cnt, e_sub, e_augsub, e_aug, e_sfld, e_augfld, e_for, e_chain, e_add, e_addI, e_addL, e_addT, e_addS, e_subI, e_mul, e_mulI, e_fdiv, e_mod, e_pow, e_shl, e_shr, e_band, e_bor, e_bxor, e_lt, e_le, e_gt, e_ge, e_neg, e_eqI, e_neI, e_eqS, e_neS, e_eqB, e_neB, e_eqNI, e_neNI, e_isNN, e_isIN, e_isSN, e_isBN, e_isTN, e_isLN, e_isON, e_isntNN, e_isntIN, e_isntSN, e_isntTN, e_isntLN, e_isntON, e_min2, e_max2, e_int1, e_int1b, e_lenL, e_lenT, e_lenKT, e_lenS, e_lenScr, e_listL, e_listT, e_outT, e_outF, e_slL, e_slT, e_ixL, e_ixT, e_ixKT, e_ixScr, e_isi1, e_isi2, e_tyN, e_tyB, e_tyI, e_tyS, e_tyL, e_tyT, e_tyKT, e_k_NoneType_int, e_k_NoneType_bool, e_k_NoneType_str, e_k_NoneType_list, e_k_NoneType_tuple, e_k_NoneType_dict, e_k_bool_int, e_k_bool_bool, e_k_bool_str, e_k_bool_list, e_k_bool_tuple, e_k_bool_dict, e_k_int_int, e_k_int_bool, e_k_int_str, e_k_int_list, e_k_int_tuple, e_k_int_dict, e_k_str_int, e_k_str_bool, e_k_str_str, e_k_str_list, e_k_str_tuple, e_k_str_dict, e_k_list_int, e_k_list_bool, e_k_list_str, e_k_list_list, e_k_list_tuple, e_k_list_dict, e_k_tuple_int, e_k_tuple_bool, e_k_tuple_str, e_k_tuple_list, e_k_tuple_tuple, e_k_tuple_dict, e_k_dict_int, e_k_dict_bool, e_k_dict_str, e_k_dict_list, e_k_dict_tuple, e_k_dict_dict, List.getElem?_cons_zero, List.getElem?_cons_succ, List.set_cons_zero, List.set_cons_succ, decide_true, decide_false, Bool.not_true, Bool.not_false, if_true, if_false, ite_true, ite_false, Bool.false_eq_true, true_and, and_true, truD, eq_self, Int.zero_add]
        refine ⟨a.length, rfl, glast, rfl, by simp, ?_⟩
        rw [made]
        have j1 := j.newo
        generalize a ++ [AO.obj 0 [.lst (dI []), .loc (a.length + 1)], AO.lst []] = b at j1
        subst hM3
        refine ifG fun T F hT hF => ?_
        simp only [e_var, e_C, e_op, e_un, e_test, e_tru, e_and, e_or, e_not, e_andV, e_orV, e_notV, e_if, e_nil, e_cons, e_lst, e_lstM, e_tup, e_N, e_R1, e_R2, e_call, e_meth, e_make, e_fld, e_bm, e_noPart, e_part, e_sl, e_yes, e_lc, e_seqI, e_goL, e_goScr, e_rng1, e_rng2, e_next, e_seq, e_set, e_asg, e_exp, e_ret, e_retN, e_sif, e_brk, e_cnt, e_sub, e_augsub, e_aug, e_sfld, e_augfld, e_for, e_chain, e_add, e_addI, e_addL, e_addT, e_addS, e_subI, e_mul, e_mulI, e_fdiv, e_mod, e_pow, e_shl, e_shr, e_band, e_bor, e_bxor, e_lt, e_le, e_gt, e_ge, e_neg, e_eqI, e_neI, e_eqS, e_neS, e_eqB, e_neB, e_eqNI, e_neNI, e_isNN, e_isIN, e_isSN, e_isBN, e_isTN, e_isLN, e_isON, e_isntNN, e_isntIN, e_isntSN, e_isntTN, e_isntLN, e_isntON, e_min2, e_max2, e_int1, e_int1b, e_lenL, e_lenT, e_lenKT, e_lenS, e_lenScr, e_listL, e_listT, e_outT, e_outF, e_slL, e_slT, e_ixL, e_ixT, e_ixKT, e_ixScr, e_isi1, e_isi2, e_tyN, e_tyB, e_tyI, e_tyS, e_tyL, e_tyT, e_tyKT, e_k_NoneType_int, e_k_NoneType_bool, e_k_NoneType_str, e_k_NoneType_list, e_k_NoneType_tuple, e_k_NoneType_dict, e_k_bool_int, e_k_bool_bool, e_k_bool_str, e_k_bool_list, e_k_bool_tuple, e_k_bool_dict, e_k_int_int, e_k_int_bool, e_k_int_str, e_k_int_list, e_k_int_tuple, e_k_int_dict, e_k_str_int, e_k_str_bool, e_k_str_str, e_k_str_list, e_k_str_tuple, e_k_str_dict, e_k_list_int, e_k_list_bool, e_k_list_str, e_k_list_list, e_k_list_tuple, e_k_list_dict, e_k_tuple_int, e_k_tuple_bool, e_k_tuple_str, e_k_tuple_list, e_k_tuple_tuple, e_k_tuple_dict, e_k_dict_int, e_k_dict_bool, e_k_dict_str, e_k_dict_list, e_k_dict_tuple, e_k_dict_dict, List.getElem?_cons_zero, List.getElem?_cons_succ, List.set_cons_zero, List.set_cons_succ, decide_true, decide_false, Bool.not_true, Bool.not_false, if_true, if_false, ite_true, ite_false, Bool.false_eq_true, true_and, and_true, truD, eq_self, Int.zero_add, e_objV j1.fo.1, Option.isSome_some]
        refine ⟨_, _, [], _, rfl, j1.fo, fits_small (by simp), fits_small (by simp), ?_⟩
        have v1 : vwL b (.lst (dI (runS [] []))) = some (([] : List Int).map D.int) := rfl
        have v2 : vwL b (.lst []) = some (([] : List Int).map D.int) := rfl
        rw [e_neV v1 v2]
        simp only [e_var, e_C, e_op, e_un, e_test, e_tru, e_and, e_or, e_not, e_andV, e_orV, e_notV, e_if, e_nil, e_cons, e_lst, e_lstM, e_tup, e_N, e_R1, e_R2, e_call, e_meth, e_make, e_fld, e_bm, e_noPart, e_part, e_sl, e_yes, e_lc, e_seqI, e_goL, e_goScr, e_rng1, e_rng2, e_next, e_seq, e_set, e_asg, e_exp, e_ret, e_retN, e_sif, e_brk, e_cnt, e_sub, e_augsub, e_aug, e_sfld, e_augfld, e_for, e_chain, e_add, e_addI, e_addL, e_addT, e_addS, e_subI, e_mul, e_mulI, e_fdiv, e_mod, e_pow, e_shl, e_shr, e_band, e_bor, e_bxor, e_lt, e_le, e_gt, e_ge, e_neg, e_eqI, e_neI, e_eqS, e_neS, e_eqB, e_neB, e_eqNI, e_neNI, e_isNN, e_isIN, e_isSN, e_isBN, e_isTN, e_isLN, e_isON, e_isntNN, e_isntIN, e_isntSN, e_isntTN, e_isntLN, e_isntON, e_min2, e_max2, e_int1, e_int1b, e_lenL, e_lenT, e_lenKT, e_lenS, e_lenScr, e_listL, e_listT, e_outT, e_outF, e_slL, e_slT, e_ixL, e_ixT, e_ixKT, e_ixScr, e_isi1, e_isi2, e_tyN, e_tyB, e_tyI, e_tyS, e_tyL, e_tyT, e_tyKT, e_k_NoneType_int, e_k_NoneType_bool, e_k_NoneType_str, e_k_NoneType_list, e_k_NoneType_tuple, e_k_NoneType_dict, e_k_bool_int, e_k_bool_bool, e_k_bool_str, e_k_bool_list, e_k_bool_tuple, e_k_bool_dict, e_k_int_int, e_k_int_bool, e_k_int_str, e_k_int_list, e_k_int_tuple, e_k_int_dict, e_k_str_int, e_k_str_bool, e_k_str_str, e_k_str_list, e_k_str_tuple, e_k_str_dict, e_k_list_int, e_k_list_bool, e_k_list_str, e_k_list_list, e_k_list_tuple, e_k_list_dict, e_k_tuple_int, e_k_tuple_bool, e_k_tuple_str, e_k_tuple_list, e_k_tuple_tuple, e_k_tuple_dict, e_k_dict_int, e_k_dict_bool, e_k_dict_str, e_k_dict_list, e_k_dict_tuple, e_k_dict_dict, List.getElem?_cons_zero, List.getElem?_cons_succ, List.set_cons_zero, List.set_cons_succ, decide_true, decide_false, Bool.not_true, Bool.not_false, if_true, if_false, ite_true, ite_false, Bool.false_eq_true, true_and, and_true, truD, eq_self, Int.zero_add, e_objV j1.fo.1, Option.isSome_some]
        refine ⟨_, _, [], _, rfl, j1.fo, sameI ?_⟩
        simp only [e_var, e_C, e_op, e_un, e_test, e_tru, e_and, e_or, e_not, e_andV, e_orV, e_notV, e_if, e_nil, e_cons, e_lst, e_lstM, e_tup, e_N, e_R1, e_R2, e_call, e_meth, e_make, e_fld, e_bm, e_noPart, e_part, e_sl, e_yes, e_lc, e_seqI, e_goL, e_goScr, e_rng1, e_rng2, e_next, e_seq, e_set, e_asg, e_exp, e_ret, e_retN, e_sif, e_brk, e_cnt, e_sub, e_augsub, e_aug, e_sfld, e_augfld, e_for, e_chain, e_add, e_addI, e_addL, e_addT, e_addS, e_subI, e_mul, e_mulI, e_fdiv, e_mod, e_pow, e_shl, e_shr, e_band, e_bor, e_bxor, e_lt, e_le, e_gt, e_ge, e_neg, e_eqI, e_neI, e_eqS, e_neS, e_eqB, e_neB, e_eqNI, e_neNI, e_isNN, e_isIN, e_isSN, e_isBN, e_isTN, e_isLN, e_isON, e_isntNN, e_isntIN, e_isntSN, e_isntTN, e_isntLN, e_isntON, e_min2, e_max2, e_int1, e_int1b, e_lenL, e_lenT, e_lenKT, e_lenS, e_lenScr, e_listL, e_listT, e_outT, e_outF, e_slL, e_slT, e_ixL, e_ixT, e_ixKT, e_ixScr, e_isi1, e_isi2, e_tyN, e_tyB, e_tyI, e_tyS, e_tyL, e_tyT, e_tyKT, e_k_NoneType_int, e_k_NoneType_bool, e_k_NoneType_str, e_k_NoneType_list, e_k_NoneType_tuple, e_k_NoneType_dict, e_k_bool_int, e_k_bool_bool, e_k_bool_str, e_k_bool_list, e_k_bool_tuple, e_k_bool_dict, e_k_int_int, e_k_int_bool, e_k_int_str, e_k_int_list, e_k_int_tuple, e_k_int_dict, e_k_str_int, e_k_str_bool, e_k_str_str, e_k_str_list, e_k_str_tuple, e_k_str_dict, e_k_list_int, e_k_list_bool, e_k_list_str, e_k_list_list, e_k_list_tuple, e_k_list_dict, e_k_tuple_int, e_k_tuple_bool, e_k_tuple_str, e_k_tuple_list, e_k_tuple_tuple, e_k_tuple_dict, e_k_dict_int, e_k_dict_bool, e_k_dict_str, e_k_dict_list, e_k_dict_tuple, e_k_dict_dict, List.getElem?_cons_zero, List.getElem?_cons_succ, List.set_cons_zero, List.set_cons_succ, decide_true, decide_false, Bool.not_true, Bool.not_false, if_true, if_false, ite_true, ite_false, Bool.false_eq_true, true_and, and_true, truD, eq_self, Int.zero_add]
        subst hF
        simp only [e_var, e_C, e_op, e_un, e_test, e_tru, e_and, e_or, e_not, e_andV, e_orV, e_notV, e_if, e_nil, e_cons, e_lst, e_lstM, e_tup, e_N, e_R1, e_R2, e_call, e_meth, e_make, e_fld, e_bm, e_noPart, e_part, e_sl, e_yes, e_lc, e_seqI, e_goL, e_goScr, e_rng1, e_rng2, e_next, e_seq, e_set, e_asg, e_exp, e_ret, e_retN, e_sif, e_brk, e_cnt, e_sub, e_augsub, e_aug, e_sfld, e_augfld, e_for, e_chain, e_add, e_addI, e_addL, e_addT, e_addS, e_subI, e_mul, e_mulI, e_fdiv, e_mod, e_pow, e_shl, e_shr, e_band, e_bor, e_bxor, e_lt, e_le, e_gt, e_ge, e_neg, e_eqI, e_neI, e_eqS, e_neS, e_eqB, e_neB, e_eqNI, e_neNI, e_isNN, e_isIN, e_isSN, e_isBN, e_isTN, e_isLN, e_isON, e_isntNN, e_isntIN, e_isntSN, e_isntTN, e_isntLN, e_isntON, e_min2, e_max2, e_int1, e_int1b, e_lenL, e_lenT, e_lenKT, e_lenS, e_lenScr, e_listL, e_listT, e_outT, e_outF, e_slL, e_slT, e_ixL, e_ixT, e_ixKT, e_ixScr, e_isi1, e_isi2, e_tyN, e_tyB, e_tyI, e_tyS, e_tyL, e_tyT, e_tyKT, e_k_NoneType_int, e_k_NoneType_bool, e_k_NoneType_str, e_k_NoneType_list, e_k_NoneType_tuple, e_k_NoneType_dict, e_k_bool_int, e_k_bool_bool, e_k_bool_str, e_k_bool_list, e_k_bool_tuple, e_k_bool_dict, e_k_int_int, e_k_int_bool, e_k_int_str, e_k_int_list, e_k_int_tuple, e_k_int_dict, e_k_str_int, e_k_str_bool, e_k_str_str, e_k_str_list, e_k_str_tuple, e_k_str_dict, e_k_list_int, e_k_list_bool, e_k_list_str, e_k_list_list, e_k_list_tuple, e_k_list_dict, e_k_tuple_int, e_k_tuple_bool, e_k_tuple_str, e_k_tuple_list, e_k_tuple_tuple, e_k_tuple_dict, e_k_dict_int, e_k_dict_bool, e_k_dict_str, e_k_dict_list, e_k_dict_tuple, e_k_dict_dict, List.getElem?_cons_zero, List.getElem?_cons_succ, List.set_cons_zero, List.set_cons_succ, decide_true, decide_false, Bool.not_true, Bool.not_false, if_true, if_false, ite_true, ite_false, Bool.false_eq_true, true_and, and_true, truD, eq_self, Int.zero_add]
        exact H _ _ _ j1
      · subst hF
        simp only [e_var, e_C, e_op, e_un, e_test, e_tru, e_and, e_or, e_not, e_andV, e_orV, e_notV, e_if, e_nil, e_cons, e_lst, e_lstM, e_tup, e_N, e_R1, e_R2, e_call, e_meth, e_make, e_fld, e_bm, e_noPart, e_part, e_sl, e_yes, e_lc, e_seqI, e_goL, e_goScr, e_rng1, e_rng2, e_next, e_seq, e_set, e_asg, e_exp, e_ret, e_retN, e_sif, e_brk, e_cnt, e_sub, e_augsub, e_aug, e_sfld, e_augfld, e_for, e_chain, e_add, e_addI, e_addL, e_addT, e_addS, e_subI, e_mul, e_mulI, e_fdiv, e_mod, e_pow, e_shl, e_shr, e_band, e_bor, e_bxor, e_lt, e_le, e_gt, e_ge, e_neg, e_eqI, e_neI, e_eqS, e_neS, e_eqB, e_neB, e_eqNI, e_neNI, e_isNN, e_isIN, e_isSN, e_isBN, e_isTN, e_isLN, e_isON, e_isntNN, e_isntIN, e_isntSN, e_isntTN, e_isntLN, e_isntON, e_min2, e_max2, e_int1, e_int1b, e_lenL, e_lenT, e_lenKT, e_lenS, e_lenScr, e_listL, e_listT, e_outT, e_outF, e_slL, e_slT, e_ixL, e_ixT, e_ixKT, e_ixScr, e_isi1, e_isi2, e_tyN, e_tyB, e_tyI, e_tyS, e_tyL, e_tyT, e_tyKT, e_k_NoneType_int, e_k_NoneType_bool, e_k_NoneType_str, e_k_NoneType_list, e_k_NoneType_tuple, e_k_NoneType_dict, e_k_bool_int, e_k_bool_bool, e_k_bool_str, e_k_bool_list, e_k_bool_tuple, e_k_bool_dict, e_k_int_int, e_k_int_bool, e_k_int_str, e_k_int_list, e_k_int_tuple, e_k_int_dict, e_k_str_int, e_k_str_bool, e_k_str_str, e_k_str_list, e_k_str_tuple, e_k_str_dict, e_k_list_int, e_k_list_bool, e_k_list_str, e_k_list_list, e_k_list_tuple, e_k_list_dict, e_k_tuple_int, e_k_tuple_bool, e_k_tuple_str, e_k_tuple_list, e_k_tuple_tuple, e_k_tuple_dict, e_k_dict_int, e_k_dict_bool, e_k_dict_str, e_k_dict_list, e_k_dict_tuple, e_k_dict_dict, List.getElem?_cons_zero, List.getElem?_cons_succ, List.set_cons_zero, List.set_cons_succ, decide_true, decide_false, Bool.not_true, Bool.not_false, if_true, if_false, ite_true, ite_false, Bool.false_eq_true, true_and, and_true, truD, eq_self, Int.zero_add]
        exact H _ _ _ j
    subst hM2
    intro a o ko j
    refine seqG fun M2 hM2 => ?_
    simp only [e_var, e_C, e_op, e_un, e_test, e_tru, e_and, e_or, e_not, e_andV, e_orV, e_notV, e_if, e_nil, e_cons, e_lst, e_lstM, e_tup, e_N, e_R1, e_R2, e_call, e_meth, e_make, e_fld, e_bm, e_noPart, e_part, e_sl, e_yes, e_lc, e_seqI, e_goL, e_goScr, e_rng1, e_rng2, e_next, e_seq, e_set, e_asg, e_exp, e_ret, e_retN, e_sif, e_brk, e_cnt, e_sub, e_augsub, e_aug, e_sfld, e_augfld, e_for, e_chain, e_add, e_addI, e_addL, e_addT, e_addS, e_subI, e_mul, e_mulI, e_fdiv, e_mod, e_pow, e_shl, e_shr, e_band, e_bor, e_bxor, e_lt, e_le, e_gt, e_ge, e_neg, e_eqI, e_neI, e_eqS, e_neS, e_eqB, e_neB, e_eqNI, e_neNI, e_isNN, e_isIN, e_isSN, e_isBN, e_isTN, e_isLN, e_isON, e_isntNN, e_isntIN, e_isntSN, e_isntTN, e_isntLN, e_isntON, e_min2, e_max2, e_int1, e_int1b, e_lenL, e_lenT, e_lenKT, e_lenS, e_lenScr, e_listL, e_listT, e_outT, e_outF, e_slL, e_slT, e_ixL, e_ixT, e_ixKT, e_ixScr, e_isi1, e_isi2, e_tyN, e_tyB, e_tyI, e_tyS, e_tyL, e_tyT, e_tyKT, e_k_NoneType_int, e_k_NoneType_bool, e_k_NoneType_str, e_k_NoneType_list, e_k_NoneType_tuple, e_k_NoneType_dict, e_k_bool_int, e_k_bool_bool, e_k_bool_str, e_k_bool_list, e_k_bool_tuple, e_k_bool_dict, e_k_int_int, e_k_int_bool, e_k_int_str, e_k_int_list, e_k_int_tuple, e_k_int_dict, e_k_str_int, e_k_str_bool, e_k_str_str, e_k_str_list, e_k_str_tuple, e_k_str_dict, e_k_list_int, e_k_list_bool, e_k_list_str, e_k_list_list, e_k_list_tuple, e_k_list_dict, e_k_tuple_int, e_k_tuple_bool, e_k_tuple_str, e_k_tuple_list, e_k_tuple_tuple, e_k_tuple_dict, e_k_dict_int, e_k_dict_bool, e_k_dict_str, e_k_dict_list, e_k_dict_tuple, e_k_dict_dict, List.getElem?_cons_zero, List.getElem?_cons_succ, List.set_cons_zero, List.set_cons_succ, decide_true, decide_false, Bool.not_true, Bool.not_false, if_true, if_false, ite_true, ite_false, Bool.false_eq_true, true_and, and_true, truD, eq_self, Int.zero_add]
    refine ⟨0, 1, k, ls, ss, rfl, j.st, j.f1, by decide, Ne.symm j.nk.1, by omega, j.c, fun a' ls' ss' k' hd hf hb' hc' => ?_⟩
    have j2 := j.deed hd hf hc'
    have hb2 : ls'.length + ss'.length ≤ 60 * (i + 1) := by omega
    simp only [Tg.put, Tg.puts, e_var, e_C, e_op, e_un, e_test, e_tru, e_and, e_or, e_not, e_andV, e_orV, e_notV, e_if, e_nil, e_cons, e_lst, e_lstM, e_tup, e_N, e_R1, e_R2, e_call, e_meth, e_make, e_fld, e_bm, e_noPart, e_part, e_sl, e_yes, e_lc, e_seqI, e_goL, e_goScr, e_rng1, e_rng2, e_next, e_seq, e_set, e_asg, e_exp, e_ret, e_retN, e_sif, e_brk, e_cnt, e_sub, e_augsub, e_aug, e_sfld, e_augfld, e_for, e_chain, e_add, e_addI, e_addL, e_addT, e_addS, e_subI, e_mul, e_mulI, e_fdiv, e_mod, e_pow, e_shl, e_shr, e_band, e_bor, e_bxor, e_lt, e_le, e_gt, e_ge, e_neg, e_eqI, e_neI, e_eqS, e_neS, e_eqB, e_neB, e_eqNI, e_neNI, e_isNN, e_isIN, e_isSN, e_isBN, e_isTN, e_isLN, e_isON, e_isntNN, e_isntIN, e_isntSN, e_isntTN, e_isntLN, e_isntON, e_min2, e_max2, e_int1, e_int1b, e_lenL, e_lenT, e_lenKT, e_lenS, e_lenScr, e_listL, e_listT, e_outT, e_outF, e_slL, e_slT, e_ixL, e_ixT, e_ixKT, e_ixScr, e_isi1, e_isi2, e_tyN, e_tyB, e_tyI, e_tyS, e_tyL, e_tyT, e_tyKT, e_k_NoneType_int, e_k_NoneType_bool, e_k_NoneType_str, e_k_NoneType_list, e_k_NoneType_tuple, e_k_NoneType_dict, e_k_bool_int, e_k_bool_bool, e_k_bool_str, e_k_bool_list, e_k_bool_tuple, e_k_bool_dict, e_k_int_int, e_k_int_bool, e_k_int_str, e_k_int_list, e_k_int_tuple, e_k_int_dict, e_k_str_int, e_k_str_bool, e_k_str_str, e_k_str_list, e_k_str_tuple, e_k_str_dict, e_k_list_int, e_k_list_bool, e_k_list_str, e_k_list_list, e_k_list_tuple, e_k_list_dict, e_k_tuple_int, e_k_tuple_bool, e_k_tuple_str, e_k_tuple_list, e_k_tuple_tuple, e_k_tuple_dict, e_k_dict_int, e_k_dict_bool, e_k_dict_str, e_k_dict_list, e_k_dict_tuple, e_k_dict_dict, List.getElem?_cons_zero, List.getElem?_cons_succ, List.set_cons_zero, List.set_cons_succ, decide_true, decide_false, Bool.not_true, Bool.not_false, if_true, if_false, ite_true, ite_false, Bool.false_eq_true, true_and, and_true, truD, eq_self, Int.zero_add]
    subst hM2
    have hrl := @run_len ss' ls'
    refine seqG fun M2 hM2 => ?_
    refine ifG fun T F hT hF => ?_
    simp only [e_var, e_C, e_op, e_un, e_test, e_tru, e_and, e_or, e_not, e_andV, e_orV, e_notV, e_if, e_nil, e_cons, e_lst, e_lstM, e_tup, e_N, e_R1, e_R2, e_call, e_meth, e_make, e_fld, e_bm, e_noPart, e_part, e_sl, e_yes, e_lc, e_seqI, e_goL, e_goScr, e_rng1, e_rng2, e_next, e_seq, e_set, e_asg, e_exp, e_ret, e_retN, e_sif, e_brk, e_cnt, e_sub, e_augsub, e_aug, e_sfld, e_augfld, e_for, e_chain, e_add, e_addI, e_addL, e_addT, e_addS, e_subI, e_mul, e_mulI, e_fdiv, e_mod, e_pow, e_shl, e_shr, e_band, e_bor, e_bxor, e_lt, e_le, e_gt, e_ge, e_neg, e_eqI, e_neI, e_eqS, e_neS, e_eqB, e_neB, e_eqNI, e_neNI, e_isNN, e_isIN, e_isSN, e_isBN, e_isTN, e_isLN, e_isON, e_isntNN, e_isntIN, e_isntSN, e_isntTN, e_isntLN, e_isntON, e_min2, e_max2, e_int1, e_int1b, e_lenL, e_lenT, e_lenKT, e_lenS, e_lenScr, e_listL, e_listT, e_outT, e_outF, e_slL, e_slT, e_ixL, e_ixT, e_ixKT, e_ixScr, e_isi1, e_isi2, e_tyN, e_tyB, e_tyI, e_tyS, e_tyL, e_tyT, e_tyKT, e_k_NoneType_int, e_k_NoneType_bool, e_k_NoneType_str, e_k_NoneType_list, e_k_NoneType_tuple, e_k_NoneType_dict, e_k_bool_int, e_k_bool_bool, e_k_bool_str, e_k_bool_list, e_k_bool_tuple, e_k_bool_dict, e_k_int_int, e_k_int_bool, e_k_int_str, e_k_int_list, e_k_int_tuple, e_k_int_dict, e_k_str_int, e_k_str_bool, e_k_str_str, e_k_str_list, e_k_str_tuple, e_k_str_dict, e_k_list_int, e_k_list_bool, e_k_list_str, e_k_list_list, e_k_list_tuple, e_k_list_dict, e_k_tuple_int, e_k_tuple_bool, e_k_tuple_str, e_k_tuple_list, e_k_tuple_tuple, e_k_tuple_dict, e_k_dict_int, e_k_dict_bool, e_k_dict_str, e_k_dict_list, e_k_dict_tuple, e_k_dict_dict, List.getElem?_cons_zero, List.getElem?_cons_succ, List.set_cons_zero, List.set_cons_succ, decide_true, decide_false, Bool.not_true, Bool.not_false, if_true, if_false, ite_true, ite_false, Bool.false_eq_true, true_and, and_true, truD, eq_self, Int.zero_add, e_objV j2.f1.1, Option.isSome_some]
    refine ⟨1, k', ls', ss', rfl, j2.f1, fits_small (by omega), ?_⟩
    refine ⟨ls', ss', rfl, fits_small (by omega), sameL (by omega) ?_⟩
    simp only [e_var, e_C, e_op, e_un, e_test, e_tru, e_and, e_or, e_not, e_andV, e_orV, e_notV, e_if, e_nil, e_cons, e_lst, e_lstM, e_tup, e_N, e_R1, e_R2, e_call, e_meth, e_make, e_fld, e_bm, e_noPart, e_part, e_sl, e_yes, e_lc, e_seqI, e_goL, e_goScr, e_rng1, e_rng2, e_next, e_seq, e_set, e_asg, e_exp, e_ret, e_retN, e_sif, e_brk, e_cnt, e_sub, e_augsub, e_aug, e_sfld, e_augfld, e_for, e_chain, e_add, e_addI, e_addL, e_addT, e_addS, e_subI, e_mul, e_mulI, e_fdiv, e_mod, e_pow, e_shl, e_shr, e_band, e_bor, e_bxor, e_lt, e_le, e_gt, e_ge, e_neg, e_eqI, e_neI, e_eqS, e_neS, e_eqB, e_neB, e_eqNI, e_neNI, e_isNN, e_isIN, e_isSN, e_isBN, e_isTN, e_isLN, e_isON, e_isntNN, e_isntIN, e_isntSN, e_isntTN, e_isntLN, e_isntON, e_min2, e_max2, e_int1, e_int1b, e_lenL, e_lenT, e_lenKT, e_lenS, e_lenScr, e_listL, e_listT, e_outT, e_outF, e_slL, e_slT, e_ixL, e_ixT, e_ixKT, e_ixScr, e_isi1, e_isi2, e_tyN, e_tyB, e_tyI, e_tyS, e_tyL, e_tyT, e_tyKT, e_k_NoneType_int, e_k_NoneType_bool, e_k_NoneType_str, e_k_NoneType_list, e_k_NoneType_tuple, e_k_NoneType_dict, e_k_bool_int, e_k_bool_bool, e_k_bool_str, e_k_bool_list, e_k_bool_tuple, e_k_bool_dict, e_k_int_int, e_k_int_bool, e_k_int_str, e_k_int_list, e_k_int_tuple, e_k_int_dict, e_k_str_int, e_k_str_bool, e_k_str_str, e_k_str_list, e_k_str_tuple, e_k_str_dict, e_k_list_int, e_k_list_bool, e_k_list_str, e_k_list_list, e_k_list_tuple, e_k_list_dict, e_k_tuple_int, e_k_tuple_bool, e_k_tuple_str, e_k_tuple_list, e_k_tuple_tuple, e_k_tuple_dict, e_k_dict_int, e_k_dict_bool, e_k_dict_str, e_k_dict_list, e_k_dict_tuple, e_k_dict_dict, List.getElem?_cons_zero, List.getElem?_cons_succ, List.set_cons_zero, List.set_cons_succ, decide_true, decide_false, Bool.not_true, Bool.not_false, if_true, if_false, ite_true, ite_false, Bool.false_eq_true, true_and, and_true, truD, eq_self, Int.zero_add]
    subst hF
    simp only [e_var, e_C, e_op, e_un, e_test, e_tru, e_and, e_or, e_not, e_andV, e_orV, e_notV, e_if, e_nil, e_cons, e_lst, e_lstM, e_tup, e_N, e_R1, e_R2, e_call, e_meth, e_make, e_fld, e_bm, e_noPart, e_part, e_sl, e_yes, e_lc, e_seqI, e_goL, e_goScr, e_rng1, e_rng2, e_next, e_seq, e_set, e_asg, e_exp, e_ret, e_retN, e_sif, e_brk, e_cnt, e_sub, e_augsub, e_aug, e_sfld, e_augfld, e_for, e_chain, e_add, e_addI, e_addL, e_addT, e_addS, e_subI, e_mul, e_mulI, e_fdiv, e_mod, e_pow, e_shl, e_shr, e_band, e_bor, e_bxor, e_lt, e_le, e_gt, e_ge, e_neg, e_eqI, e_neI, e_eqS, e_neS, e_eqB, e_neB, e_eqNI, e_neNI, e_isNN, e_isIN, e_isSN, e_isBN, e_isTN, e_isLN, e_isON, e_isntNN, e_isntIN, e_isntSN, e_isntTN, e_isntLN, e_isntON, e_min2, e_max2, e_int1, e_int1b, e_lenL, e_lenT, e_lenKT, e_lenS, e_lenScr, e_listL, e_listT, e_outT, e_outF, e_slL, e_slT, e_ixL, e_ixT, e_ixKT, e_ixScr, e_isi1, e_isi2, e_tyN, e_tyB, e_tyI, e_tyS, e_tyL, e_tyT, e_tyKT, e_k_NoneType_int, e_k_NoneType_bool, e_k_NoneType_str, e_k_NoneType_list, e_k_NoneType_tuple, e_k_NoneType_dict, e_k_bool_int, e_k_bool_bool, e_k_bool_str, e_k_bool_list, e_k_bool_tuple, e_k_bool_dict, e_k_int_int, e_k_int_bool, e_k_int_str, e_k_int_list, e_k_int_tuple, e_k_int_dict, e_k_str_int, e_k_str_bool, e_k_str_str, e_k_str_list, e_k_str_tuple, e_k_str_dict, e_k_list_int, e_k_list_bool, e_k_list_str, e_k_list_list, e_k_list_tuple, e_k_list_dict, e_k_tuple_int, e_k_tuple_bool, e_k_tuple_str, e_k_tuple_list, e_k_tuple_tuple, e_k_tuple_dict, e_k_dict_int, e_k_dict_bool, e_k_dict_str, e_k_dict_list, e_k_dict_tuple, e_k_dict_dict, List.getElem?_cons_zero, List.getElem?_cons_succ, List.set_cons_zero, List.set_cons_succ, decide_true, decide_false, Bool.not_true, Bool.not_false, if_true, if_false, ite_true, ite_false, Bool.false_eq_true, true_and, and_true, truD, eq_self, Int.zero_add]
    subst hM2
    refine seqG fun M2 hM2 => ?_
    refine ifG fun T F hT hF => ?_
    simp only [e_var, e_C, e_op, e_un, e_test, e_tru, e_and, e_or, e_not, e_andV, e_orV, e_notV, e_if, e_nil, e_cons, e_lst, e_lstM, e_tup, e_N, e_R1, e_R2, e_call, e_meth, e_make, e_fld, e_bm, e_noPart, e_part, e_sl, e_yes, e_lc, e_seqI, e_goL, e_goScr, e_rng1, e_rng2, e_next, e_seq, e_set, e_asg, e_exp, e_ret, e_retN, e_sif, e_brk, e_cnt, e_sub, e_augsub, e_aug, e_sfld, e_augfld, e_for, e_chain, e_add, e_addI, e_addL, e_addT, e_addS, e_subI, e_mul, e_mulI, e_fdiv, e_mod, e_pow, e_shl, e_shr, e_band, e_bor, e_bxor, e_lt, e_le, e_gt, e_ge, e_neg, e_eqI, e_neI, e_eqS, e_neS, e_eqB, e_neB, e_eqNI, e_neNI, e_isNN, e_isIN, e_isSN, e_isBN, e_isTN, e_isLN, e_isON, e_isntNN, e_isntIN, e_isntSN, e_isntTN, e_isntLN, e_isntON, e_min2, e_max2, e_int1, e_int1b, e_lenL, e_lenT, e_lenKT, e_lenS, e_lenScr, e_listL, e_listT, e_outT, e_outF, e_slL, e_slT, e_ixL, e_ixT, e_ixKT, e_ixScr, e_isi1, e_isi2, e_tyN, e_tyB, e_tyI, e_tyS, e_tyL, e_tyT, e_tyKT, e_k_NoneType_int, e_k_NoneType_bool, e_k_NoneType_str, e_k_NoneType_list, e_k_NoneType_tuple, e_k_NoneType_dict, e_k_bool_int, e_k_bool_bool, e_k_bool_str, e_k_bool_list, e_k_bool_tuple, e_k_bool_dict, e_k_int_int, e_k_int_bool, e_k_int_str, e_k_int_list, e_k_int_tuple, e_k_int_dict, e_k_str_int, e_k_str_bool, e_k_str_str, e_k_str_list, e_k_str_tuple, e_k_str_dict, e_k_list_int, e_k_list_bool, e_k_list_str, e_k_list_list, e_k_list_tuple, e_k_list_dict, e_k_tuple_int, e_k_tuple_bool, e_k_tuple_str, e_k_tuple_list, e_k_tuple_tuple, e_k_tuple_dict, e_k_dict_int, e_k_dict_bool, e_k_dict_str, e_k_dict_list, e_k_dict_tuple, e_k_dict_dict, List.getElem?_cons_zero, List.getElem?_cons_succ, List.set_cons_zero, List.set_cons_succ, decide_true, decide_false, Bool.not_true, Bool.not_false, if_true, if_false, ite_true, ite_false, Bool.false_eq_true, true_and, and_true, truD, eq_self, Int.zero_add, e_objV j2.f1.1, Option.isSome_some, List.length_map]
    refine ⟨1, k', ls', ss', rfl, j2.f1, sameI ?_⟩
    simp only [e_var, e_C, e_op, e_un, e_test, e_tru, e_and, e_or, e_not, e_andV, e_orV, e_notV, e_if, e_nil, e_cons, e_lst, e_lstM, e_tup, e_N, e_R1, e_R2, e_call, e_meth, e_make, e_fld, e_bm, e_noPart, e_part, e_sl, e_yes, e_lc, e_seqI, e_goL, e_goScr, e_rng1, e_rng2, e_next, e_seq, e_set, e_asg, e_exp, e_ret, e_retN, e_sif, e_brk, e_cnt, e_sub, e_augsub, e_aug, e_sfld, e_augfld, e_for, e_chain, e_add, e_addI, e_addL, e_addT, e_addS, e_subI, e_mul, e_mulI, e_fdiv, e_mod, e_pow, e_shl, e_shr, e_band, e_bor, e_bxor, e_lt, e_le, e_gt, e_ge, e_neg, e_eqI, e_neI, e_eqS, e_neS, e_eqB, e_neB, e_eqNI, e_neNI, e_isNN, e_isIN, e_isSN, e_isBN, e_isTN, e_isLN, e_isON, e_isntNN, e_isntIN, e_isntSN, e_isntTN, e_isntLN, e_isntON, e_min2, e_max2, e_int1, e_int1b, e_lenL, e_lenT, e_lenKT, e_lenS, e_lenScr, e_listL, e_listT, e_outT, e_outF, e_slL, e_slT, e_ixL, e_ixT, e_ixKT, e_ixScr, e_isi1, e_isi2, e_tyN, e_tyB, e_tyI, e_tyS, e_tyL, e_tyT, e_tyKT, e_k_NoneType_int, e_k_NoneType_bool, e_k_NoneType_str, e_k_NoneType_list, e_k_NoneType_tuple, e_k_NoneType_dict, e_k_bool_int, e_k_bool_bool, e_k_bool_str, e_k_bool_list, e_k_bool_tuple, e_k_bool_dict, e_k_int_int, e_k_int_bool, e_k_int_str, e_k_int_list, e_k_int_tuple, e_k_int_dict, e_k_str_int, e_k_str_bool, e_k_str_str, e_k_str_list, e_k_str_tuple, e_k_str_dict, e_k_list_int, e_k_list_bool, e_k_list_str, e_k_list_list, e_k_list_tuple, e_k_list_dict, e_k_tuple_int, e_k_tuple_bool, e_k_tuple_str, e_k_tuple_list, e_k_tuple_tuple, e_k_tuple_dict, e_k_dict_int, e_k_dict_bool, e_k_dict_str, e_k_dict_list, e_k_dict_tuple, e_k_dict_dict, List.getElem?_cons_zero, List.getElem?_cons_succ, List.set_cons_zero, List.set_cons_succ, decide_true, decide_false, Bool.not_true, Bool.not_false, if_true, if_false, ite_true, ite_false, Bool.false_eq_true, true_and, and_true, truD, eq_self, Int.zero_add]
    subst hF
    simp only [e_var, e_C, e_op, e_un, e_test, e_tru, e_and, e_or, e_not, e_andV, e_orV, e_notV, e_if, e_nil, e_cons, e_lst, e_lstM, e_tup, e_N, e_R1, e_R2, e_call, e_meth, e_make, e_fld, e_bm, e_noPart, e_part, e_sl, e_yes, e_lc, e_seqI, e_goL, e_goScr, e_rng1, e_rng2, e_next, e_seq, e_set, e_asg, e_exp, e_ret, e_retN, e_sif, e_brk, e_cnt, e_sub, e_augsub, e_aug, e_sfld, e_augfld, e_for, e_chain, e_add, e_addI, e_addL, e_addT, e_addS, e_subI, e_mul, e_mulI, e_fdiv, e_mod, e_pow, e_shl, e_shr, e_band, e_bor, e_bxor, e_lt, e_le, e_gt, e_ge, e_neg, e_eqI, e_neI, e_eqS, e_neS, e_eqB, e_neB, e_eqNI, e_neNI, e_isNN, e_isIN, e_isSN, e_isBN, e_isTN, e_isLN, e_isON, e_isntNN, e_isntIN, e_isntSN, e_isntTN, e_isntLN, e_isntON, e_min2, e_max2, e_int1, e_int1b, e_lenL, e_lenT, e_lenKT, e_lenS, e_lenScr, e_listL, e_listT, e_outT, e_outF, e_slL, e_slT, e_ixL, e_ixT, e_ixKT, e_ixScr, e_isi1, e_isi2, e_tyN, e_tyB, e_tyI, e_tyS, e_tyL, e_tyT, e_tyKT, e_k_NoneType_int, e_k_NoneType_bool, e_k_NoneType_str, e_k_NoneType_list, e_k_NoneType_tuple, e_k_NoneType_dict, e_k_bool_int, e_k_bool_bool, e_k_bool_str, e_k_bool_list, e_k_bool_tuple, e_k_bool_dict, e_k_int_int, e_k_int_bool, e_k_int_str, e_k_int_list, e_k_int_tuple, e_k_int_dict, e_k_str_int, e_k_str_bool, e_k_str_str, e_k_str_list, e_k_str_tuple, e_k_str_dict, e_k_list_int, e_k_list_bool, e_k_list_str, e_k_list_list, e_k_list_tuple, e_k_list_dict, e_k_tuple_int, e_k_tuple_bool, e_k_tuple_str, e_k_tuple_list, e_k_tuple_tuple, e_k_tuple_dict, e_k_dict_int, e_k_dict_bool, e_k_dict_str, e_k_dict_list, e_k_dict_tuple, e_k_dict_dict, List.getElem?_cons_zero, List.getElem?_cons_succ, List.set_cons_zero, List.set_cons_succ, decide_true, decide_false, Bool.not_true, Bool.not_false, if_true, if_false, ite_true, ite_false, Bool.false_eq_true, true_and, and_true, truD, eq_self, Int.zero_add]
    subst hM2
    refine seqG fun M2 hM2 => ?_
    simp only [e_var, e_C, e_op, e_un, e_test, e_tru, e_and, e_or, e_not, e_andV, e_orV, e_notV, e_if, e_nil, e_cons, e_lst, e_lstM, e_tup, e_N, e_R1, e_R2, e_call, e_meth, e_make, e_fld, e_bm, e_noPart, e_part, e_sl, e_yes, e_lc, e_seqI, e_goL, e_goScr, e_rng1, e_rng2, e_next, e_seq, e_set, e_asg, e_exp, e_ret, e_retN, e_sif, e_brk, e_cnt, e_sub, e_augsub, e_aug, e_sfld, e_augfld, e_for, e_chain, e_add, e_addI, e_addL, e_addT, e_addS, e_subI, e_mul, e_mulI, e_fdiv, e_mod, e_pow, e_shl, e_shr, e_band, e_bor, e_bxor, e_lt, e_le, e_gt, e_ge, e_neg, e_eqI, e_neI, e_eqS, e_neS, e_eqB, e_neB, e_eqNI, e_neNI, e_isNN, e_isIN, e_isSN, e_isBN, e_isTN, e_isLN, e_isON, e_isntNN, e_isntIN, e_isntSN, e_isntTN, e_isntLN, e_isntON, e_min2, e_max2, e_int1, e_int1b, e_lenL, e_lenT, e_lenKT, e_lenS, e_lenScr, e_listL, e_listT, e_outT, e_outF, e_slL, e_slT, e_ixL, e_ixT, e_ixKT, e_ixScr, e_isi1, e_isi2, e_tyN, e_tyB, e_tyI, e_tyS, e_tyL, e_tyT, e_tyKT, e_k_NoneType_int, e_k_NoneType_bool, e_k_NoneType_str, e_k_NoneType_list, e_k_NoneType_tuple, e_k_NoneType_dict, e_k_bool_int, e_k_bool_bool, e_k_bool_str, e_k_bool_list, e_k_bool_tuple, e_k_bool_dict, e_k_int_int, e_k_int_bool, e_k_int_str, e_k_int_list, e_k_int_tuple, e_k_int_dict, e_k_str_int, e_k_str_bool, e_k_str_str, e_k_str_list, e_k_str_tuple, e_k_str_dict, e_k_list_int, e_k_list_bool, e_k_list_str, e_k_list_list, e_k_list_tuple, e_k_list_dict, e_k_tuple_int, e_k_tuple_bool, e_k_tuple_str, e_k_tuple_list, e_k_tuple_tuple, e_k_tuple_dict, e_k_dict_int, e_k_dict_bool, e_k_dict_str, e_k_dict_list, e_k_dict_tuple, e_k_dict_dict, List.getElem?_cons_zero, List.getElem?_cons_succ, List.set_cons_zero, List.set_cons_succ, decide_true, decide_false, Bool.not_true, Bool.not_false, if_true, if_false, ite_true, ite_false, Bool.false_eq_true, true_and, and_true, truD, eq_self, Int.zero_add, e_objV j2.f1.1, Option.isSome_some]
    refine ⟨1, k', ls', ss', rfl, j2.f1, fits_small (by omega), fun g m hg hz => ?_⟩
    have gm : (a' ++ g)[a'.length + m]? = some (.lst (dI (runS ls' ss'))) := getA.trans hg
    refine ⟨e_isL gm, ?_⟩
    rw [e_append gm, setA]
    refine ⟨fits_small (by rw [dI_len]; omega), ?_⟩
    have j3 := j2.app (g := g.set m (.lst (dI (runS ls' ss') ++ [.int 7])))
    subst hM2
    refine ifG fun T F hT hF => ?_
    simp only [e_var, e_C, e_op, e_un, e_test, e_tru, e_and, e_or, e_not, e_andV, e_orV, e_notV, e_if, e_nil, e_cons, e_lst, e_lstM, e_tup, e_N, e_R1, e_R2, e_call, e_meth, e_make, e_fld, e_bm, e_noPart, e_part, e_sl, e_yes, e_lc, e_seqI, e_goL, e_goScr, e_rng1, e_rng2, e_next, e_seq, e_set, e_asg, e_exp, e_ret, e_retN, e_sif, e_brk, e_cnt, e_sub, e_augsub, e_aug, e_sfld, e_augfld, e_for, e_chain, e_add, e_addI, e_addL, e_addT, e_addS, e_subI, e_mul, e_mulI, e_fdiv, e_mod, e_pow, e_shl, e_shr, e_band, e_bor, e_bxor, e_lt, e_le, e_gt, e_ge, e_neg, e_eqI, e_neI, e_eqS, e_neS, e_eqB, e_neB, e_eqNI, e_neNI, e_isNN, e_isIN, e_isSN, e_isBN, e_isTN, e_isLN, e_isON, e_isntNN, e_isntIN, e_isntSN, e_isntTN, e_isntLN, e_isntON, e_min2, e_max2, e_int1, e_int1b, e_lenL, e_lenT, e_lenKT, e_lenS, e_lenScr, e_listL, e_listT, e_outT, e_outF, e_slL, e_slT, e_ixL, e_ixT, e_ixKT, e_ixScr, e_isi1, e_isi2, e_tyN, e_tyB, e_tyI, e_tyS, e_tyL, e_tyT, e_tyKT, e_k_NoneType_int, e_k_NoneType_bool, e_k_NoneType_str, e_k_NoneType_list, e_k_NoneType_tuple, e_k_NoneType_dict, e_k_bool_int, e_k_bool_bool, e_k_bool_str, e_k_bool_list, e_k_bool_tuple, e_k_bool_dict, e_k_int_int, e_k_int_bool, e_k_int_str, e_k_int_list, e_k_int_tuple, e_k_int_dict, e_k_str_int, e_k_str_bool, e_k_str_str, e_k_str_list, e_k_str_tuple, e_k_str_dict, e_k_list_int, e_k_list_bool, e_k_list_str, e_k_list_list, e_k_list_tuple, e_k_list_dict, e_k_tuple_int, e_k_tuple_bool, e_k_tuple_str, e_k_tuple_list, e_k_tuple_tuple, e_k_tuple_dict, e_k_dict_int, e_k_dict_bool, e_k_dict_str, e_k_dict_list, e_k_dict_tuple, e_k_dict_dict, List.getElem?_cons_zero, List.getElem?_cons_succ, List.set_cons_zero, List.set_cons_succ, decide_true, decide_false, Bool.not_true, Bool.not_false, if_true, if_false, ite_true, ite_false, Bool.false_eq_true, true_and, and_true, truD, eq_self, Int.zero_add]
    refine nxJ j3 (by decide) fun v3 a3 _ _ j4 => ?_
    simp only [e_var, e_C, e_op, e_un, e_test, e_tru, e_and, e_or, e_not, e_andV, e_orV, e_notV, e_if, e_nil, e_cons, e_lst, e_lstM, e_tup, e_N, e_R1, e_R2, e_call, e_meth, e_make, e_fld, e_bm, e_noPart, e_part, e_sl, e_yes, e_lc, e_seqI, e_goL, e_goScr, e_rng1, e_rng2, e_next, e_seq, e_set, e_asg, e_exp, e_ret, e_retN, e_sif, e_brk, e_cnt, e_sub, e_augsub, e_aug, e_sfld, e_augfld, e_for, e_chain, e_add, e_addI, e_addL, e_addT, e_addS, e_subI, e_mul, e_mulI, e_fdiv, e_mod, e_pow, e_shl, e_shr, e_band, e_bor, e_bxor, e_lt, e_le, e_gt, e_ge, e_neg, e_eqI, e_neI, e_eqS, e_neS, e_eqB, e_neB, e_eqNI, e_neNI, e_isNN, e_isIN, e_isSN, e_isBN, e_isTN, e_isLN, e_isON, e_isntNN, e_isntIN, e_isntSN, e_isntTN, e_isntLN, e_isntON, e_min2, e_max2, e_int1, e_int1b, e_lenL, e_lenT, e_lenKT, e_lenS, e_lenScr, e_listL, e_listT, e_outT, e_outF, e_slL, e_slT, e_ixL, e_ixT, e_ixKT, e_ixScr, e_isi1, e_isi2, e_tyN, e_tyB, e_tyI, e_tyS, e_tyL, e_tyT, e_tyKT, e_k_NoneType_int, e_k_NoneType_bool, e_k_NoneType_str, e_k_NoneType_list, e_k_NoneType_tuple, e_k_NoneType_dict, e_k_bool_int, e_k_bool_bool, e_k_bool_str, e_k_bool_list, e_k_bool_tuple, e_k_bool_dict, e_k_int_int, e_k_int_bool, e_k_int_str, e_k_int_list, e_k_int_tuple, e_k_int_dict, e_k_str_int, e_k_str_bool, e_k_str_str, e_k_str_list, e_k_str_tuple, e_k_str_dict, e_k_list_int, e_k_list_bool, e_k_list_str, e_k_list_list, e_k_list_tuple, e_k_list_dict, e_k_tuple_int, e_k_tuple_bool, e_k_tuple_str, e_k_tuple_list, e_k_tuple_tuple, e_k_tuple_dict, e_k_dict_int, e_k_dict_bool, e_k_dict_str, e_k_dict_list, e_k_dict_tuple, e_k_dict_dict, List.getElem?_cons_zero, List.getElem?_cons_succ, List.set_cons_zero, List.set_cons_succ, decide_true, decide_false, Bool.not_true, Bool.not_false, if_true, if_false, ite_true, ite_false, Bool.false_eq_true, true_and, and_true, truD, eq_self, Int.zero_add, e_objV j4.f1.1, Option.isSome_some]
    have go : M1 [some (.scr ns), some (.loc 0), some (.loc 1), some (.lst (dI ls')), some (.lst (ss'.map encL)), some (.loc o), some (.loc 5), some (.int i), some (.bl true)] a3 :=
      hM1 _ _ ⟨k', o, ko, ls', ss', _, _, rfl, j4, hb2⟩
    split
    · refine ⟨1, k', ls', ss', rfl, j4.f1, fits_small (by omega), ?_⟩
      refine ⟨ls', ss', rfl, fits_small (by omega), sameL (by omega) ?_⟩
      simp only [e_var, e_C, e_op, e_un, e_test, e_tru, e_and, e_or, e_not, e_andV, e_orV, e_notV, e_if, e_nil, e_cons, e_lst, e_lstM, e_tup, e_N, e_R1, e_R2, e_call, e_meth, e_make, e_fld, e_bm, e_noPart, e_part, e_sl, e_yes, e_lc, e_seqI, e_goL, e_goScr, e_rng1, e_rng2, e_next, e_seq, e_set, e_asg, e_exp, e_ret, e_retN, e_sif, e_brk, e_cnt, e_sub, e_augsub, e_aug, e_sfld, e_augfld, e_for, e_chain, e_add, e_addI, e_addL, e_addT, e_addS, e_subI, e_mul, e_mulI, e_fdiv, e_mod, e_pow, e_shl, e_shr, e_band, e_bor, e_bxor, e_lt, e_le, e_gt, e_ge, e_neg, e_eqI, e_neI, e_eqS, e_neS, e_eqB, e_neB, e_eqNI, e_neNI, e_isNN, e_isIN, e_isSN, e_isBN, e_isTN, e_isLN, e_isON, e_isntNN, e_isntIN, e_isntSN, e_isntTN, e_isntLN, e_isntON, e_min2, e_max2, e_int1, e_int1b, e_lenL, e_lenT, e_lenKT, e_lenS, e_lenScr, e_listL, e_listT, e_outT, e_outF, e_slL, e_slT, e_ixL, e_ixT, e_ixKT, e_ixScr, e_isi1, e_isi2, e_tyN, e_tyB, e_tyI, e_tyS, e_tyL, e_tyT, e_tyKT, e_k_NoneType_int, e_k_NoneType_bool, e_k_NoneType_str, e_k_NoneType_list, e_k_NoneType_tuple, e_k_NoneType_dict, e_k_bool_int, e_k_bool_bool, e_k_bool_str, e_k_bool_list, e_k_bool_tuple, e_k_bool_dict, e_k_int_int, e_k_int_bool, e_k_int_str, e_k_int_list, e_k_int_tuple, e_k_int_dict, e_k_str_int, e_k_str_bool, e_k_str_str, e_k_str_list, e_k_str_tuple, e_k_str_dict, e_k_list_int, e_k_list_bool, e_k_list_str, e_k_list_list, e_k_list_tuple, e_k_list_dict, e_k_tuple_int, e_k_tuple_bool, e_k_tuple_str, e_k_tuple_list, e_k_tuple_tuple, e_k_tuple_dict, e_k_dict_int, e_k_dict_bool, e_k_dict_str, e_k_dict_list, e_k_dict_tuple, e_k_dict_dict, List.getElem?_cons_zero, List.getElem?_cons_succ, List.set_cons_zero, List.set_cons_succ, decide_true, decide_false, Bool.not_true, Bool.not_false, if_true, if_false, ite_true, ite_false, Bool.false_eq_true, true_and, and_true, truD, eq_self, Int.zero_add]
      subst hF
      simp only [e_var, e_C, e_op, e_un, e_test, e_tru, e_and, e_or, e_not, e_andV, e_orV, e_notV, e_if, e_nil, e_cons, e_lst, e_lstM, e_tup, e_N, e_R1, e_R2, e_call, e_meth, e_make, e_fld, e_bm, e_noPart, e_part, e_sl, e_yes, e_lc, e_seqI, e_goL, e_goScr, e_rng1, e_rng2, e_next, e_seq, e_set, e_asg, e_exp, e_ret, e_retN, e_sif, e_brk, e_cnt, e_sub, e_augsub, e_aug, e_sfld, e_augfld, e_for, e_chain, e_add, e_addI, e_addL, e_addT, e_addS, e_subI, e_mul, e_mulI, e_fdiv, e_mod, e_pow, e_shl, e_shr, e_band, e_bor, e_bxor, e_lt, e_le, e_gt, e_ge, e_neg, e_eqI, e_neI, e_eqS, e_neS, e_eqB, e_neB, e_eqNI, e_neNI, e_isNN, e_isIN, e_isSN, e_isBN, e_isTN, e_isLN, e_isON, e_isntNN, e_isntIN, e_isntSN, e_isntTN, e_isntLN, e_isntON, e_min2, e_max2, e_int1, e_int1b, e_lenL, e_lenT, e_lenKT, e_lenS, e_lenScr, e_listL, e_listT, e_outT, e_outF, e_slL, e_slT, e_ixL, e_ixT, e_ixKT, e_ixScr, e_isi1, e_isi2, e_tyN, e_tyB, e_tyI, e_tyS, e_tyL, e_tyT, e_tyKT, e_k_NoneType_int, e_k_NoneType_bool, e_k_NoneType_str, e_k_NoneType_list, e_k_NoneType_tuple, e_k_NoneType_dict, e_k_bool_int, e_k_bool_bool, e_k_bool_str, e_k_bool_list, e_k_bool_tuple, e_k_bool_dict, e_k_int_int, e_k_int_bool, e_k_int_str, e_k_int_list, e_k_int_tuple, e_k_int_dict, e_k_str_int, e_k_str_bool, e_k_str_str, e_k_str_list, e_k_str_tuple, e_k_str_dict, e_k_list_int, e_k_list_bool, e_k_list_str, e_k_list_list, e_k_list_tuple, e_k_list_dict, e_k_tuple_int, e_k_tuple_bool, e_k_tuple_str, e_k_tuple_list, e_k_tuple_tuple, e_k_tuple_dict, e_k_dict_int, e_k_dict_bool, e_k_dict_str, e_k_dict_list, e_k_dict_tuple, e_k_dict_dict, List.getElem?_cons_zero, List.getElem?_cons_succ, List.set_cons_zero, List.set_cons_succ, decide_true, decide_false, Bool.not_true, Bool.not_false, if_true, if_false, ite_true, ite_false, Bool.false_eq_true, true_and, and_true, truD, eq_self, Int.zero_add]
      exact go
    · subst hF
      simp only [e_var, e_C, e_op, e_un, e_test, e_tru, e_and, e_or, e_not, e_andV, e_orV, e_notV, e_if, e_nil, e_cons, e_lst, e_lstM, e_tup, e_N, e_R1, e_R2, e_call, e_meth, e_make, e_fld, e_bm, e_noPart, e_part, e_sl, e_yes, e_lc, e_seqI, e_goL, e_goScr, e_rng1, e_rng2, e_next, e_seq, e_set, e_asg, e_exp, e_ret, e_retN, e_sif, e_brk, e_cnt, e_sub, e_augsub, e_aug, e_sfld, e_augfld, e_for, e_chain, e_add, e_addI, e_addL, e_addT, e_addS, e_subI, e_mul, e_mulI, e_fdiv, e_mod, e_pow, e_shl, e_shr, e_band, e_bor, e_bxor, e_lt, e_le, e_gt, e_ge, e_neg, e_eqI, e_neI, e_eqS, e_neS, e_eqB, e_neB, e_eqNI, e_neNI, e_isNN, e_isIN, e_isSN, e_isBN, e_isTN, e_isLN, e_isON, e_isntNN, e_isntIN, e_isntSN, e_isntTN, e_isntLN, e_isntON, e_min2, e_max2, e_int1, e_int1b, e_lenL, e_lenT, e_lenKT, e_lenS, e_lenScr, e_listL, e_listT, e_outT, e_outF, e_slL, e_slT, e_ixL, e_ixT, e_ixKT, e_ixScr, e_isi1, e_isi2, e_tyN, e_tyB, e_tyI, e_tyS, e_tyL, e_tyT, e_tyKT, e_k_NoneType_int, e_k_NoneType_bool, e_k_NoneType_str, e_k_NoneType_list, e_k_NoneType_tuple, e_k_NoneType_dict, e_k_bool_int, e_k_bool_bool, e_k_bool_str, e_k_bool_list, e_k_bool_tuple, e_k_bool_dict, e_k_int_int, e_k_int_bool, e_k_int_str, e_k_int_list, e_k_int_tuple, e_k_int_dict, e_k_str_int, e_k_str_bool, e_k_str_str, e_k_str_list, e_k_str_tuple, e_k_str_dict, e_k_list_int, e_k_list_bool, e_k_list_str, e_k_list_list, e_k_list_tuple, e_k_list_dict, e_k_tuple_int, e_k_tuple_bool, e_k_tuple_str, e_k_tuple_list, e_k_tuple_tuple, e_k_tuple_dict, e_k_dict_int, e_k_dict_bool, e_k_dict_str, e_k_dict_list, e_k_dict_tuple, e_k_dict_dict, List.getElem?_cons_zero, List.getElem?_cons_succ, List.set_cons_zero, List.set_cons_succ, decide_true, decide_false, Bool.not_true, Bool.not_false, if_true, if_false, ite_true, ite_false, Bool.false_eq_true, true_and, and_true, truD, eq_self, Int.zero_add]
      exact go
  · rintro ρ a ⟨k, o, ko, ls, ss, x, y, rfl, j, hb⟩
    have hb' : ls.length + ss.length ≤ 60 * 31 := by rw [rngD_len] at hb; omega
    show M _ _
    subst hM
    refine seqG fun M hM => ?_
    simp only [e_var, e_C, e_op, e_un, e_test, e_tru, e_and, e_or, e_not, e_andV, e_orV, e_notV, e_if, e_nil, e_cons, e_lst, e_lstM, e_tup, e_N, e_R1, e_R2, e_call, e_meth, e_make, e_fld, e_bm, e_noPart, e_part, e_sl, e_yes, e_lc, e_seqI, e_goL, e_goScr, e_rng1, e_rng2, e_next, e_seq, e_set, e_asg, e_exp, e_ret, e_retN, e_sif, e_brk, e_cnt, e_sub, e_augsub, e_aug, e_sfld, e_augfld, e_for, e_chain, e_add, e_addI, e_addL, e_addT, e_addS, e_subI, e_mul, e_mulI, e_fdiv, e_mod, e_pow, e_shl, e_shr, e_band, e_bor, e_bxor, e_lt, e_le, e_gt, e_ge, e_neg, e_eqI, e_neI, e_eqS, e_neS, e_eqB, e_neB, e_eqNI, e_neNI, e_isNN, e_isIN, e_isSN, e_isBN, e_isTN, e_isLN, e_isON, e_isntNN, e_isntIN, e_isntSN, e_isntTN, e_isntLN, e_isntON, e_min2, e_max2, e_int1, e_int1b, e_lenL, e_lenT, e_lenKT, e_lenS, e_lenScr, e_listL, e_listT, e_outT, e_outF, e_slL, e_slT, e_ixL, e_ixT, e_ixKT, e_ixScr, e_isi1, e_isi2, e_tyN, e_tyB, e_tyI, e_tyS, e_tyL, e_tyT, e_tyKT, e_k_NoneType_int, e_k_NoneType_bool, e_k_NoneType_str, e_k_NoneType_list, e_k_NoneType_tuple, e_k_NoneType_dict, e_k_bool_int, e_k_bool_bool, e_k_bool_str, e_k_bool_list, e_k_bool_tuple, e_k_bool_dict, e_k_int_int, e_k_int_bool, e_k_int_str, e_k_int_list, e_k_int_tuple, e_k_int_dict, e_k_str_int, e_k_str_bool, e_k_str_str, e_k_str_list, e_k_str_tuple, e_k_str_dict, e_k_list_int, e_k_list_bool, e_k_list_str, e_k_list_list, e_k_list_tuple, e_k_list_dict, e_k_tuple_int, e_k_tuple_bool, e_k_tuple_str, e_k_tuple_list, e_k_tuple_tuple, e_k_tuple_dict, e_k_dict_int, e_k_dict_bool, e_k_dict_str, e_k_dict_list, e_k_dict_tuple, e_k_dict_dict, List.getElem?_cons_zero, List.getElem?_cons_succ, List.set_cons_zero, List.set_cons_succ, decide_true, decide_false, Bool.not_true, Bool.not_false, if_true, if_false, ite_true, ite_false, Bool.false_eq_true, true_and, and_true, truD, eq_self, Int.zero_add, e_objV j.f1.1, Option.isSome_some]
    refine ⟨1, k, ls, ss, 0, rfl, j.f1, by decide, fits_small (by omega), ?_⟩
    have f1 : FileAt (lost a 1 (runS ls (ss.take (Int.toNat 0)))) 1 a.length ls [] := lost_at (zs := runS ls (ss.take (Int.toNat 0))) j.f1
    have f5 : FileAt (lost a 1 (runS ls (ss.take (Int.toNat 0)))) 5 7 [1, 2] [.app 3] := j.f5.cong (lost_get j.f5.lt (by decide)) (lost_get j.f5.put (by decide))
    generalize lost a 1 (runS ls (ss.take (Int.toNat 0))) = b at f1 f5
    subst hM
    refine seqG fun M hM => ?_
    refine ifG fun T F hT hF => ?_
    simp only [e_var, e_C, e_op, e_un, e_test, e_tru, e_and, e_or, e_not, e_andV, e_orV, e_notV, e_if, e_nil, e_cons, e_lst, e_lstM, e_tup, e_N, e_R1, e_R2, e_call, e_meth, e_make, e_fld, e_bm, e_noPart, e_part, e_sl, e_yes, e_lc, e_seqI, e_goL, e_goScr, e_rng1, e_rng2, e_next, e_seq, e_set, e_asg, e_exp, e_ret, e_retN, e_sif, e_brk, e_cnt, e_sub, e_augsub, e_aug, e_sfld, e_augfld, e_for, e_chain, e_add, e_addI, e_addL, e_addT, e_addS, e_subI, e_mul, e_mulI, e_fdiv, e_mod, e_pow, e_shl, e_shr, e_band, e_bor, e_bxor, e_lt, e_le, e_gt, e_ge, e_neg, e_eqI, e_neI, e_eqS, e_neS, e_eqB, e_neB, e_eqNI, e_neNI, e_isNN, e_isIN, e_isSN, e_isBN, e_isTN, e_isLN, e_isON, e_isntNN, e_isntIN, e_isntSN, e_isntTN, e_isntLN, e_isntON, e_min2, e_max2, e_int1, e_int1b, e_lenL, e_lenT, e_lenKT, e_lenS, e_lenScr, e_listL, e_listT, e_outT, e_outF, e_slL, e_slT, e_ixL, e_ixT, e_ixKT, e_ixScr, e_isi1, e_isi2, e_tyN, e_tyB, e_tyI, e_tyS, e_tyL, e_tyT, e_tyKT, e_k_NoneType_int, e_k_NoneType_bool, e_k_NoneType_str, e_k_NoneType_list, e_k_NoneType_tuple, e_k_NoneType_dict, e_k_bool_int, e_k_bool_bool, e_k_bool_str, e_k_bool_list, e_k_bool_tuple, e_k_bool_dict, e_k_int_int, e_k_int_bool, e_k_int_str, e_k_int_list, e_k_int_tuple, e_k_int_dict, e_k_str_int, e_k_str_bool, e_k_str_str, e_k_str_list, e_k_str_tuple, e_k_str_dict, e_k_list_int, e_k_list_bool, e_k_list_str, e_k_list_list, e_k_list_tuple, e_k_list_dict, e_k_tuple_int, e_k_tuple_bool, e_k_tuple_str, e_k_tuple_list, e_k_tuple_tuple, e_k_tuple_dict, e_k_dict_int, e_k_dict_bool, e_k_dict_str, e_k_dict_list, e_k_dict_tuple, e_k_dict_dict, List.getElem?_cons_zero, List.getElem?_cons_succ, List.set_cons_zero, List.set_cons_succ, decide_true, decide_false, Bool.not_true, Bool.not_false, if_true, if_false, ite_true, ite_false, Bool.false_eq_true, true_and, and_true, truD, eq_self, Int.zero_add, e_objV f5.1, Option.isSome_some]
    refine ⟨5, 7, _, _, rfl, f5, fits_small (by simp), fits_small (by simp), sameL (xs := [1, 2, 3]) (by simp) ?_⟩
    simp only [e_var, e_C, e_op, e_un, e_test, e_tru, e_and, e_or, e_not, e_andV, e_orV, e_notV, e_if, e_nil, e_cons, e_lst, e_lstM, e_tup, e_N, e_R1, e_R2, e_call, e_meth, e_make, e_fld, e_bm, e_noPart, e_part, e_sl, e_yes, e_lc, e_seqI, e_goL, e_goScr, e_rng1, e_rng2, e_next, e_seq, e_set, e_asg, e_exp, e_ret, e_retN, e_sif, e_brk, e_cnt, e_sub, e_augsub, e_aug, e_sfld, e_augfld, e_for, e_chain, e_add, e_addI, e_addL, e_addT, e_addS, e_subI, e_mul, e_mulI, e_fdiv, e_mod, e_pow, e_shl, e_shr, e_band, e_bor, e_bxor, e_lt, e_le, e_gt, e_ge, e_neg, e_eqI, e_neI, e_eqS, e_neS, e_eqB, e_neB, e_eqNI, e_neNI, e_isNN, e_isIN, e_isSN, e_isBN, e_isTN, e_isLN, e_isON, e_isntNN, e_isntIN, e_isntSN, e_isntTN, e_isntLN, e_isntON, e_min2, e_max2, e_int1, e_int1b, e_lenL, e_lenT, e_lenKT, e_lenS, e_lenScr, e_listL, e_listT, e_outT, e_outF, e_slL, e_slT, e_ixL, e_ixT, e_ixKT, e_ixScr, e_isi1, e_isi2, e_tyN, e_tyB, e_tyI, e_tyS, e_tyL, e_tyT, e_tyKT, e_k_NoneType_int, e_k_NoneType_bool, e_k_NoneType_str, e_k_NoneType_list, e_k_NoneType_tuple, e_k_NoneType_dict, e_k_bool_int, e_k_bool_bool, e_k_bool_str, e_k_bool_list, e_k_bool_tuple, e_k_bool_dict, e_k_int_int, e_k_int_bool, e_k_int_str, e_k_int_list, e_k_int_tuple, e_k_int_dict, e_k_str_int, e_k_str_bool, e_k_str_str, e_k_str_list, e_k_str_tuple, e_k_str_dict, e_k_list_int, e_k_list_bool, e_k_list_str, e_k_list_list, e_k_list_tuple, e_k_list_dict, e_k_tuple_int, e_k_tuple_bool, e_k_tuple_str, e_k_tuple_list, e_k_tuple_tuple, e_k_tuple_dict, e_k_dict_int, e_k_dict_bool, e_k_dict_str, e_k_dict_list, e_k_dict_tuple, e_k_dict_dict, List.getElem?_cons_zero, List.getElem?_cons_succ, List.set_cons_zero, List.set_cons_succ, decide_true, decide_false, Bool.not_true, Bool.not_false, if_true, if_false, ite_true, ite_false, Bool.false_eq_true, true_and, and_true, truD, eq_self, Int.zero_add, e_objV f5.1, Option.isSome_some]
    refine ⟨5, 7, _, _, rfl, f5, sameI (i := 1) ?_⟩
    simp only [e_var, e_C, e_op, e_un, e_test, e_tru, e_and, e_or, e_not, e_andV, e_orV, e_notV, e_if, e_nil, e_cons, e_lst, e_lstM, e_tup, e_N, e_R1, e_R2, e_call, e_meth, e_make, e_fld, e_bm, e_noPart, e_part, e_sl, e_yes, e_lc, e_seqI, e_goL, e_goScr, e_rng1, e_rng2, e_next, e_seq, e_set, e_asg, e_exp, e_ret, e_retN, e_sif, e_brk, e_cnt, e_sub, e_augsub, e_aug, e_sfld, e_augfld, e_for, e_chain, e_add, e_addI, e_addL, e_addT, e_addS, e_subI, e_mul, e_mulI, e_fdiv, e_mod, e_pow, e_shl, e_shr, e_band, e_bor, e_bxor, e_lt, e_le, e_gt, e_ge, e_neg, e_eqI, e_neI, e_eqS, e_neS, e_eqB, e_neB, e_eqNI, e_neNI, e_isNN, e_isIN, e_isSN, e_isBN, e_isTN, e_isLN, e_isON, e_isntNN, e_isntIN, e_isntSN, e_isntTN, e_isntLN, e_isntON, e_min2, e_max2, e_int1, e_int1b, e_lenL, e_lenT, e_lenKT, e_lenS, e_lenScr, e_listL, e_listT, e_outT, e_outF, e_slL, e_slT, e_ixL, e_ixT, e_ixKT, e_ixScr, e_isi1, e_isi2, e_tyN, e_tyB, e_tyI, e_tyS, e_tyL, e_tyT, e_tyKT, e_k_NoneType_int, e_k_NoneType_bool, e_k_NoneType_str, e_k_NoneType_list, e_k_NoneType_tuple, e_k_NoneType_dict, e_k_bool_int, e_k_bool_bool, e_k_bool_str, e_k_bool_list, e_k_bool_tuple, e_k_bool_dict, e_k_int_int, e_k_int_bool, e_k_int_str, e_k_int_list, e_k_int_tuple, e_k_int_dict, e_k_str_int, e_k_str_bool, e_k_str_str, e_k_str_list, e_k_str_tuple, e_k_str_dict, e_k_list_int, e_k_list_bool, e_k_list_str, e_k_list_list, e_k_list_tuple, e_k_list_dict, e_k_tuple_int, e_k_tuple_bool, e_k_tuple_str, e_k_tuple_list, e_k_tuple_tuple, e_k_tuple_dict, e_k_dict_int, e_k_dict_bool, e_k_dict_str, e_k_dict_list, e_k_dict_tuple, e_k_dict_dict, List.getElem?_cons_zero, List.getElem?_cons_succ, List.set_cons_zero, List.set_cons_succ, decide_true, decide_false, Bool.not_true, Bool.not_false, if_true, if_false, ite_true, ite_false, Bool.false_eq_true, true_and, and_true, truD, eq_self, Int.zero_add]
    subst hF
    simp only [e_var, e_C, e_op, e_un, e_test, e_tru, e_and, e_or, e_not, e_andV, e_orV, e_notV, e_if, e_nil, e_cons, e_lst, e_lstM, e_tup, e_N, e_R1, e_R2, e_call, e_meth, e_make, e_fld, e_bm, e_noPart, e_part, e_sl, e_yes, e_lc, e_seqI, e_goL, e_goScr, e_rng1, e_rng2, e_next, e_seq, e_set, e_asg, e_exp, e_ret, e_retN, e_sif, e_brk, e_cnt, e_sub, e_augsub, e_aug, e_sfld, e_augfld, e_for, e_chain, e_add, e_addI, e_addL, e_addT, e_addS, e_subI, e_mul, e_mulI, e_fdiv, e_mod, e_pow, e_shl, e_shr, e_band, e_bor, e_bxor, e_lt, e_le, e_gt, e_ge, e_neg, e_eqI, e_neI, e_eqS, e_neS, e_eqB, e_neB, e_eqNI, e_neNI, e_isNN, e_isIN, e_isSN, e_isBN, e_isTN, e_isLN, e_isON, e_isntNN, e_isntIN, e_isntSN, e_isntTN, e_isntLN, e_isntON, e_min2, e_max2, e_int1, e_int1b, e_lenL, e_lenT, e_lenKT, e_lenS, e_lenScr, e_listL, e_listT, e_outT, e_outF, e_slL, e_slT, e_ixL, e_ixT, e_ixKT, e_ixScr, e_isi1, e_isi2, e_tyN, e_tyB, e_tyI, e_tyS, e_tyL, e_tyT, e_tyKT, e_k_NoneType_int, e_k_NoneType_bool, e_k_NoneType_str, e_k_NoneType_list, e_k_NoneType_tuple, e_k_NoneType_dict, e_k_bool_int, e_k_bool_bool, e_k_bool_str, e_k_bool_list, e_k_bool_tuple, e_k_bool_dict, e_k_int_int, e_k_int_bool, e_k_int_str, e_k_int_list, e_k_int_tuple, e_k_int_dict, e_k_str_int, e_k_str_bool, e_k_str_str, e_k_str_list, e_k_str_tuple, e_k_str_dict, e_k_list_int, e_k_list_bool, e_k_list_str, e_k_list_list, e_k_list_tuple, e_k_list_dict, e_k_tuple_int, e_k_tuple_bool, e_k_tuple_str, e_k_tuple_list, e_k_tuple_tuple, e_k_tuple_dict, e_k_dict_int, e_k_dict_bool, e_k_dict_str, e_k_dict_list, e_k_dict_tuple, e_k_dict_dict, List.getElem?_cons_zero, List.getElem?_cons_succ, List.set_cons_zero, List.set_cons_succ, decide_true, decide_false, Bool.not_true, Bool.not_false, if_true, if_false, ite_true, ite_false, Bool.false_eq_true, true_and, and_true, truD, eq_self, Int.zero_add]
    subst hM
    simp only [e_var, e_C, e_op, e_un, e_test, e_tru, e_and, e_or, e_not, e_andV, e_orV, e_notV, e_if, e_nil, e_cons, e_lst, e_lstM, e_tup, e_N, e_R1, e_R2, e_call, e_meth, e_make, e_fld, e_bm, e_noPart, e_part, e_sl, e_yes, e_lc, e_seqI, e_goL, e_goScr, e_rng1, e_rng2, e_next, e_seq, e_set, e_asg, e_exp, e_ret, e_retN, e_sif, e_brk, e_cnt, e_sub, e_augsub, e_aug, e_sfld, e_augfld, e_for, e_chain, e_add, e_addI, e_addL, e_addT, e_addS, e_subI, e_mul, e_mulI, e_fdiv, e_mod, e_pow, e_shl, e_shr, e_band, e_bor, e_bxor, e_lt, e_le, e_gt, e_ge, e_neg, e_eqI, e_neI, e_eqS, e_neS, e_eqB, e_neB, e_eqNI, e_neNI, e_isNN, e_isIN, e_isSN, e_isBN, e_isTN, e_isLN, e_isON, e_isntNN, e_isntIN, e_isntSN, e_isntTN, e_isntLN, e_isntON, e_min2, e_max2, e_int1, e_int1b, e_lenL, e_lenT, e_lenKT, e_lenS, e_lenScr, e_listL, e_listT, e_outT, e_outF, e_slL, e_slT, e_ixL, e_ixT, e_ixKT, e_ixScr, e_isi1, e_isi2, e_tyN, e_tyB, e_tyI, e_tyS, e_tyL, e_tyT, e_tyKT, e_k_NoneType_int, e_k_NoneType_bool, e_k_NoneType_str, e_k_NoneType_list, e_k_NoneType_tuple, e_k_NoneType_dict, e_k_bool_int, e_k_bool_bool, e_k_bool_str, e_k_bool_list, e_k_bool_tuple, e_k_bool_dict, e_k_int_int, e_k_int_bool, e_k_int_str, e_k_int_list, e_k_int_tuple, e_k_int_dict, e_k_str_int, e_k_str_bool, e_k_str_str, e_k_str_list, e_k_str_tuple, e_k_str_dict, e_k_list_int, e_k_list_bool, e_k_list_str, e_k_list_list, e_k_list_tuple, e_k_list_dict, e_k_tuple_int, e_k_tuple_bool, e_k_tuple_str, e_k_tuple_list, e_k_tuple_tuple, e_k_tuple_dict, e_k_dict_int, e_k_dict_bool, e_k_dict_str, e_k_dict_list, e_k_dict_tuple, e_k_dict_dict, List.getElem?_cons_zero, List.getElem?_cons_succ, List.set_cons_zero, List.set_cons_succ, decide_true, decide_false, Bool.not_true, Bool.not_false, if_true, if_false, ite_true, ite_false, Bool.false_eq_true, true_and, and_true, truD, eq_self, Int.zero_add, e_objV f1.1, Option.isSome_some]
    refine ⟨1, _, ls, [], rfl, f1, fits_small (by simp; omega), sameL (xs := ls) (by omega) ?_⟩
    simp only [e_var, e_C, e_op, e_un, e_test, e_tru, e_and, e_or, e_not, e_andV, e_orV, e_notV, e_if, e_nil, e_cons, e_lst, e_lstM, e_tup, e_N, e_R1, e_R2, e_call, e_meth, e_make, e_fld, e_bm, e_noPart, e_part, e_sl, e_yes, e_lc, e_seqI, e_goL, e_goScr, e_rng1, e_rng2, e_next, e_seq, e_set, e_asg, e_exp, e_ret, e_retN, e_sif, e_brk, e_cnt, e_sub, e_augsub, e_aug, e_sfld, e_augfld, e_for, e_chain, e_add, e_addI, e_addL, e_addT, e_addS, e_subI, e_mul, e_mulI, e_fdiv, e_mod, e_pow, e_shl, e_shr, e_band, e_bor, e_bxor, e_lt, e_le, e_gt, e_ge, e_neg, e_eqI, e_neI, e_eqS, e_neS, e_eqB, e_neB, e_eqNI, e_neNI, e_isNN, e_isIN, e_isSN, e_isBN, e_isTN, e_isLN, e_isON, e_isntNN, e_isntIN, e_isntSN, e_isntTN, e_isntLN, e_isntON, e_min2, e_max2, e_int1, e_int1b, e_lenL, e_lenT, e_lenKT, e_lenS, e_lenScr, e_listL, e_listT, e_outT, e_outF, e_slL, e_slT, e_ixL, e_ixT, e_ixKT, e_ixScr, e_isi1, e_isi2, e_tyN, e_tyB, e_tyI, e_tyS, e_tyL, e_tyT, e_tyKT, e_k_NoneType_int, e_k_NoneType_bool, e_k_NoneType_str, e_k_NoneType_list, e_k_NoneType_tuple, e_k_NoneType_dict, e_k_bool_int, e_k_bool_bool, e_k_bool_str, e_k_bool_list, e_k_bool_tuple, e_k_bool_dict, e_k_int_int, e_k_int_bool, e_k_int_str, e_k_int_list, e_k_int_tuple, e_k_int_dict, e_k_str_int, e_k_str_bool, e_k_str_str, e_k_str_list, e_k_str_tuple, e_k_str_dict, e_k_list_int, e_k_list_bool, e_k_list_str, e_k_list_list, e_k_list_tuple, e_k_list_dict, e_k_tuple_int, e_k_tuple_bool, e_k_tuple_str, e_k_tuple_list, e_k_tuple_tuple, e_k_tuple_dict, e_k_dict_int, e_k_dict_bool, e_k_dict_str, e_k_dict_list, e_k_dict_tuple, e_k_dict_dict, List.getElem?_cons_zero, List.getElem?_cons_succ, List.set_cons_zero, List.set_cons_succ, decide_true, decide_false, Bool.not_true, Bool.not_false, if_true, if_false, ite_true, ite_false, Bool.false_eq_true, true_and, and_true, truD, eq_self, Int.zero_add, e_objV f1.1, Option.isSome_some]
    exact ⟨1, _, ls, [], rfl, f1, sameI (i := 0) (fin _)⟩
end K9
set_option Elab.async false
set_option linter.all false
set_option maxRecDepth 100000
set_option maxHeartbeats 4000000
namespace K9
open PySem PySem.Spec PyProof.Rows L2 DW
theorem len__applied (ds : List D) (a : A) (Q : DQ) (E : Exq) (h : S__applied ds a Q E) : ds.length = (["data", "steps"] : List Str).length := by
  unfold S__applied at h; grind
theorem len_File___init__ (ds : List D) (a : A) (Q : DQ) (E : Exq) (h : S_File___init__ ds a Q E) : ds.length = (["self"] : List Str).length := by
  unfold S_File___init__ at h; grind
theorem len_File_write (ds : List D) (a : A) (Q : DQ) (E : Exq) (h : S_File_write ds a Q E) : ds.length = (["self", "data", "steps"] : List Str).length := by
  unfold S_File_write at h; grind
theorem len_File_shorten (ds : List D) (a : A) (Q : DQ) (E : Exq) (h : S_File_shorten ds a Q E) : ds.length = (["self", "size", "steps"] : List Str).length := by
  unfold S_File_shorten at h; grind
theorem len_File_lose (ds : List D) (a : A) (Q : DQ) (E : Exq) (h : S_File_lose ds a Q E) : ds.length = (["self", "steps"] : List Str).length := by
  unfold S_File_lose at h; grind
theorem len_File_flush (ds : List D) (a : A) (Q : DQ) (E : Exq) (h : S_File_flush ds a Q E) : ds.length = (["self", "steps"] : List Str).length := by
  unfold S_File_flush at h; grind
theorem len_File_content (ds : List D) (a : A) (Q : DQ) (E : Exq) (h : S_File_content ds a Q E) : ds.length = (["self"] : List Str).length := by
  unfold S_File_content at h; grind
theorem len_File_pending (ds : List D) (a : A) (Q : DQ) (E : Exq) (h : S_File_pending ds a Q E) : ds.length = (["self"] : List Str).length := by
  unfold S_File_pending at h; grind
theorem len__law_mix (ds : List D) (a : A) (Q : DQ) (E : Exq) (h : S__law_mix ds a Q E) : ds.length = (["cell", "k"] : List Str).length := by
  unfold S__law_mix at h; grind
theorem len__law_draws (ds : List D) (a : A) (Q : DQ) (E : Exq) (h : S__law_draws ds a Q E) : ds.length = (["script"] : List Str).length := by
  unfold S__law_draws at h; grind
theorem len__law_at (ds : List D) (a : A) (Q : DQ) (E : Exq) (h : S__law_at ds a Q E) : ds.length = (["draws", "index"] : List Str).length := by
  unfold S__law_at at h; grind
theorem len__law_is_integer (ds : List D) (a : A) (Q : DQ) (E : Exq) (h : S__law_is_integer ds a Q E) : ds.length = (["actual"] : List Str).length := by
  unfold S__law_is_integer at h; grind
theorem len__law_same {n : Nat} (ds : List D) (a : A) (Q : DQ) (E : Exq) (h : S__law_same (n + 1) ds a Q E) : ds.length = (["actual", "expected"] : List Str).length := by
  simp only [S__law_same] at h; grind
theorem len__law_next (ds : List D) (a : A) (Q : DQ) (E : Exq) (h : S__law_next ds a Q E) : ds.length = (["state", "limit"] : List Str).length := by
  unfold S__law_next at h; grind
theorem len__law_after (ds : List D) (a : A) (Q : DQ) (E : Exq) (h : S__law_after ds a Q E) : ds.length = (["data", "steps"] : List Str).length := by
  unfold S__law_after at h; grind
theorem len__law_deed (ds : List D) (a : A) (Q : DQ) (E : Exq) (h : S__law_deed ds a Q E) : ds.length = (["state", "file", "lasting", "steps"] : List Str).length := by
  unfold S__law_deed at h; grind
theorem len__applied_M (ds : List D) (a : A) (Q : DQ) (E : Exq) (h : S__applied_M ds a Q E) : ds.length = (["data", "steps"] : List Str).length := by
  unfold S__applied_M at h; grind
theorem len_File_content_M (ds : List D) (a : A) (Q : DQ) (E : Exq) (h : S_File_content_M ds a Q E) : ds.length = (["self"] : List Str).length := by
  unfold S_File_content_M at h; grind
theorem len_law (ds : List D) (a : A) (Q : DQ) (E : Exq) (h : S_law ds a Q E) : ds.length = (["script"] : List Str).length := by
  unfold S_law at h; grind
theorem law_ok {ns : List Int} (h : ns.length ≤ 63) : S_law [.scr ns] [] (fun d _ => d = .bl true) noX := ⟨ns, rfl, rfl, h, fun _ => rfl⟩
/-! ## The head -/
def dd__applied : He.DefD := ⟨("_applied", none), "_applied", "_applied", defArgs st__applied, defBody st__applied, defScope st__applied, [], []⟩
def dd_File___init__ : He.DefD := ⟨("File", some "__init__"), "__init__", "File.__init__", defArgs st_File___init__, defBody st_File___init__, defScope st_File___init__, [], []⟩
def dd_File_write : He.DefD := ⟨("File", some "write"), "write", "File.write", defArgs st_File_write, defBody st_File_write, defScope st_File_write, [], []⟩
def dd_File_shorten : He.DefD := ⟨("File", some "shorten"), "shorten", "File.shorten", defArgs st_File_shorten, defBody st_File_shorten, defScope st_File_shorten, [], []⟩
def dd_File_lose : He.DefD := ⟨("File", some "lose"), "lose", "File.lose", defArgs st_File_lose, defBody st_File_lose, defScope st_File_lose, [], []⟩
def dd_File_flush : He.DefD := ⟨("File", some "flush"), "flush", "File.flush", defArgs st_File_flush, defBody st_File_flush, defScope st_File_flush, [], []⟩
def dd_File_content : He.DefD := ⟨("File", some "content"), "content", "File.content", defArgs st_File_content, defBody st_File_content, defScope st_File_content, [], []⟩
def dd_File_pending : He.DefD := ⟨("File", some "pending"), "pending", "File.pending", defArgs st_File_pending, defBody st_File_pending, defScope st_File_pending, [], []⟩
def dd__law_mix : He.DefD := ⟨("_law_mix", none), "_law_mix", "_law_mix", defArgs st__law_mix, defBody st__law_mix, defScope st__law_mix, [], []⟩
def dd__law_draws : He.DefD := ⟨("_law_draws", none), "_law_draws", "_law_draws", defArgs st__law_draws, defBody st__law_draws, defScope st__law_draws, [], []⟩
def dd__law_at : He.DefD := ⟨("_law_at", none), "_law_at", "_law_at", defArgs st__law_at, defBody st__law_at, defScope st__law_at, [], []⟩
def dd__law_is_integer : He.DefD := ⟨("_law_is_integer", none), "_law_is_integer", "_law_is_integer", defArgs st__law_is_integer, defBody st__law_is_integer, defScope st__law_is_integer, [], []⟩
def dd__law_same : He.DefD := ⟨("_law_same", none), "_law_same", "_law_same", defArgs st__law_same, defBody st__law_same, defScope st__law_same, [], []⟩
def dd__law_next : He.DefD := ⟨("_law_next", none), "_law_next", "_law_next", defArgs st__law_next, defBody st__law_next, defScope st__law_next, [], []⟩
def dd__law_after : He.DefD := ⟨("_law_after", none), "_law_after", "_law_after", defArgs st__law_after, defBody st__law_after, defScope st__law_after, [], []⟩
def dd__law_deed : He.DefD := ⟨("_law_deed", none), "_law_deed", "_law_deed", defArgs st__law_deed, defBody st__law_deed, defScope st__law_deed, [], []⟩
def dd_law : He.DefD := ⟨("law", none), "law", "law", defArgs st_law, defBody st_law, defScope st_law, [], []⟩
def fn_0 : List He.DefD := [dd__applied, dd_File___init__, dd_File_write, dd_File_shorten, dd_File_lose, dd_File_flush, dd_File_content, dd_File_pending, dd__law_mix, dd__law_draws, dd__law_at, dd__law_is_integer, dd__law_same, dd__law_next, dd__law_after, dd__law_deed, dd_law]
def fn : List He.DefD := fn_0
def fa_0 : List He.Fa := [.glo "_applied", .mkr "File", .meth "File" "write", .meth "File" "shorten", .meth "File" "lose", .meth "File" "flush", .meth "File" "content", .meth "File" "pending", .glo "_law_mix", .glo "_law_draws", .glo "_law_at", .glo "_law_is_integer", .glo "_law_same", .glo "_law_next", .glo "_law_after", .glo "_law_deed", .glo "law", .glo "File", .cls "File", .noat "File" "_lasting", .noat "File" "_steps", .free "bool", .free "int", .free "isinstance", .free "len", .free "list", .free "min", .free "range", .free "str", .free "tuple"]
def fa : List He.Fa := fa_0
abbrev R : PySem.W.OpenRow := PySem.W.OpenLaw.row PySem.Challenge.rw_chipwhole_k09_files_keep_a_beginning
abbrev hk : PySem.W.Hook := He.hookD 4 fa fn
def ob (s : PySem.W.SharedT) : He.AlD := He.obsDG 4 fa fn (HandSHeadRun.getT s)
theorem ob_eq (s : PySem.W.SharedT) : ob s = hk.obs s.abs := He.obsDG_eq (HandSHeadRun.getT_eq s)
theorem run (w : World) : HandSHeadRun.RunEq R (PySem.W.view R.prog [12]) hk ob 4000 ["_applied", "File", "_law_mix", "_law_draws", "_law_at", "_law_is_integer", "_law_same", "_law_next", "_law_after", "_law_deed"] w := by
  intro os
  kernel_rfl
theorem facts {P : Program} {w : World} {K : PySem.W.Frag} {h : Heap} {mg : Str → Option Value} {f : Addr} (X : K.In h) (G : h.Ns mainGlobals mg) (hfa : mg ("law" : Str) = some (.ref f)) (c : He.SaysD fa fn K) :
    ∃ fd : FuncData, (∀ (s : Shared) (v : Value), BindsTo s fd ⟨[v], []⟩ [("script", v)]) ∧ ∀ base : Heap, K.In base → base.Ns mainGlobals mg → FnOk P w K mg base CX0 6 f fd ["script"] (spD K (cI K) S_law) := by
  have T : Tab K mg := ⟨trivial, He.free_ok X G (c.fact 21 (f := .free "bool") rfl), He.free_ok X G (c.fact 22 (f := .free "int") rfl), He.free_ok X G (c.fact 23 (f := .free "isinstance") rfl), He.free_ok X G (c.fact 24 (f := .free "len") rfl), He.free_ok X G (c.fact 25 (f := .free "list") rfl), He.free_ok X G (c.fact 26 (f := .free "min") rfl), He.free_ok X G (c.fact 27 (f := .free "range") rfl), He.free_ok X G (c.fact 28 (f := .free "str") rfl), He.free_ok X G (c.fact 29 (f := .free "tuple") rfl), He.cls_ok (c.fact 18 (f := .cls "File") rfl), He.noat_ok (c.fact 19 (f := .noat "File" "_lasting") rfl), He.noat_ok (c.fact 20 (f := .noat "File" "_steps") rfl)⟩
  obtain ⟨fd__applied, F__applied⟩ := c.def_ 0 (d := dd__applied) rfl
  obtain ⟨fd_File___init__, F_File___init__⟩ := c.def_ 1 (d := dd_File___init__) rfl
  obtain ⟨fd_File_write, F_File_write⟩ := c.def_ 2 (d := dd_File_write) rfl
  obtain ⟨fd_File_shorten, F_File_shorten⟩ := c.def_ 3 (d := dd_File_shorten) rfl
  obtain ⟨fd_File_lose, F_File_lose⟩ := c.def_ 4 (d := dd_File_lose) rfl
  obtain ⟨fd_File_flush, F_File_flush⟩ := c.def_ 5 (d := dd_File_flush) rfl
  obtain ⟨fd_File_content, F_File_content⟩ := c.def_ 6 (d := dd_File_content) rfl
  obtain ⟨fd_File_pending, F_File_pending⟩ := c.def_ 7 (d := dd_File_pending) rfl
  obtain ⟨fd__law_mix, F__law_mix⟩ := c.def_ 8 (d := dd__law_mix) rfl
  obtain ⟨fd__law_draws, F__law_draws⟩ := c.def_ 9 (d := dd__law_draws) rfl
  obtain ⟨fd__law_at, F__law_at⟩ := c.def_ 10 (d := dd__law_at) rfl
  obtain ⟨fd__law_is_integer, F__law_is_integer⟩ := c.def_ 11 (d := dd__law_is_integer) rfl
  obtain ⟨fd__law_same, F__law_same⟩ := c.def_ 12 (d := dd__law_same) rfl
  obtain ⟨fd__law_next, F__law_next⟩ := c.def_ 13 (d := dd__law_next) rfl
  obtain ⟨fd__law_after, F__law_after⟩ := c.def_ 14 (d := dd__law_after) rfl
  obtain ⟨fd__law_deed, F__law_deed⟩ := c.def_ 15 (d := dd__law_deed) rfl
  obtain ⟨fd_law, F_law⟩ := c.def_ 16 (d := dd_law) rfl
  have e := hfa.symm.trans (He.glo_ok X G (c.fact 16 (f := .glo "law") rfl))
  cases e
  have b := FunD.bindsA (ps := ["script"]) F_law fun _ _ _ _ _ _ us hl => match us, hl with | [_], _ => rfl
  refine ⟨fd_law, fun s v => b s [v] rfl, fun base _ _ => ?_⟩
  have c__applied : CalD P w K mg base 1 "_applied" (spD K (cI K) S__applied) := ⟨_, fd__applied, ["data", "steps"], fnD F__applied sc__applied len__applied (fun cdv A outer s H E W0 hr => dv__applied T  cdv A outer s H E W0 hr) (fun ds a Q E h => rd__applied h), He.glo_ok X G (c.fact 0 (f := .glo "_applied") rfl), F__applied.kp, F__applied.bindsN fun _ _ _ _ _ _ us hl => match us, hl with | [_, _], _ => rfl⟩
  have c_File___init__ : MakD P w K mg base 1 "File" ((cI K).ad 0) (spD K (cI K) S_File___init__) := ⟨_, fd_File___init__, ["self"], He.mkr_ok (c.fact 1 (f := .mkr "File") rfl), fnD F_File___init__ sc_File___init__ len_File___init__ (fun cdv A outer s H E W0 hr => dv_File___init__ T  cdv A outer s H E W0 hr) (fun ds a Q E h => rd_File___init__ h), He.glo_ok X G (c.fact 17 (f := .glo "File") rfl), F_File___init__.bindsN fun _ _ _ _ _ _ us hl => match us, hl with | [_], _ => rfl⟩
  have c_File_write : MetD P w K mg base 1 ((cI K).ad 0) "write" (spD K (cI K) S_File_write) := ⟨_, fd_File_write, ["self", "data", "steps"], T.cl_0, He.meth_ok (c.fact 2 (f := .meth "File" "write") rfl), fnD F_File_write sc_File_write len_File_write (fun cdv A outer s H E W0 hr => dv_File_write T  cdv A outer s H E W0 hr) (fun ds a Q E h => rd_File_write h), F_File_write.bindsN fun _ _ _ _ _ _ us hl => match us, hl with | [_, _, _], _ => rfl⟩
  have c_File_shorten : MetD P w K mg base 1 ((cI K).ad 0) "shorten" (spD K (cI K) S_File_shorten) := ⟨_, fd_File_shorten, ["self", "size", "steps"], T.cl_0, He.meth_ok (c.fact 3 (f := .meth "File" "shorten") rfl), fnD F_File_shorten sc_File_shorten len_File_shorten (fun cdv A outer s H E W0 hr => dv_File_shorten T  cdv A outer s H E W0 hr) (fun ds a Q E h => rd_File_shorten h), F_File_shorten.bindsN fun _ _ _ _ _ _ us hl => match us, hl with | [_, _, _], _ => rfl⟩
  have c_File_lose : MetD P w K mg base 2 ((cI K).ad 0) "lose" (spD K (cI K) S_File_lose) := ⟨_, fd_File_lose, ["self", "steps"], T.cl_0, He.meth_ok (c.fact 4 (f := .meth "File" "lose") rfl), fnD F_File_lose sc_File_lose len_File_lose (fun cdv A outer s H E W0 hr => dv_File_lose T c__applied cdv A outer s H E W0 hr) (fun ds a Q E h => rd_File_lose h), F_File_lose.bindsN fun _ _ _ _ _ _ us hl => match us, hl with | [_, _], _ => rfl⟩
  have c_File_flush : MetD P w K mg base 3 ((cI K).ad 0) "flush" (spD K (cI K) S_File_flush) := ⟨_, fd_File_flush, ["self", "steps"], T.cl_0, He.meth_ok (c.fact 5 (f := .meth "File" "flush") rfl), fnD F_File_flush sc_File_flush len_File_flush (fun cdv A outer s H E W0 hr => dv_File_flush T c_File_lose cdv A outer s H E W0 hr) (fun ds a Q E h => rd_File_flush h), F_File_flush.bindsN fun _ _ _ _ _ _ us hl => match us, hl with | [_, _], _ => rfl⟩
  have c_File_content : MetD P w K mg base 2 ((cI K).ad 0) "content" (spD K (cI K) S_File_content) := ⟨_, fd_File_content, ["self"], T.cl_0, He.meth_ok (c.fact 6 (f := .meth "File" "content") rfl), fnD F_File_content sc_File_content len_File_content (fun cdv A outer s H E W0 hr => dv_File_content T c__applied cdv A outer s H E W0 hr) (fun ds a Q E h => rd_File_content h), F_File_content.bindsN fun _ _ _ _ _ _ us hl => match us, hl with | [_], _ => rfl⟩
  have c_File_pending : MetD P w K mg base 1 ((cI K).ad 0) "pending" (spD K (cI K) S_File_pending) := ⟨_, fd_File_pending, ["self"], T.cl_0, He.meth_ok (c.fact 7 (f := .meth "File" "pending") rfl), fnD F_File_pending sc_File_pending len_File_pending (fun cdv A outer s H E W0 hr => dv_File_pending T  cdv A outer s H E W0 hr) (fun ds a Q E h => rd_File_pending h), F_File_pending.bindsN fun _ _ _ _ _ _ us hl => match us, hl with | [_], _ => rfl⟩
  have c__law_mix : CalD P w K mg base 1 "_law_mix" (spD K (cI K) S__law_mix) := ⟨_, fd__law_mix, ["cell", "k"], fnD F__law_mix sc__law_mix len__law_mix (fun cdv A outer s H E W0 hr => dv__law_mix T  cdv A outer s H E W0 hr) (fun ds a Q E h => rd__law_mix h), He.glo_ok X G (c.fact 8 (f := .glo "_law_mix") rfl), F__law_mix.kp, F__law_mix.bindsN fun _ _ _ _ _ _ us hl => match us, hl with | [_, _], _ => rfl⟩
  have c__law_draws : CalD P w K mg base 2 "_law_draws" (spD K (cI K) S__law_draws) := ⟨_, fd__law_draws, ["script"], fnD F__law_draws sc__law_draws len__law_draws (fun cdv A outer s H E W0 hr => dv__law_draws T c__law_mix cdv A outer s H E W0 hr) (fun ds a Q E h => rd__law_draws h), He.glo_ok X G (c.fact 9 (f := .glo "_law_draws") rfl), F__law_draws.kp, F__law_draws.bindsN fun _ _ _ _ _ _ us hl => match us, hl with | [_], _ => rfl⟩
  have c__law_at : CalD P w K mg base 2 "_law_at" (spD K (cI K) S__law_at) := ⟨_, fd__law_at, ["draws", "index"], fnD F__law_at sc__law_at len__law_at (fun cdv A outer s H E W0 hr => dv__law_at T c__law_mix cdv A outer s H E W0 hr) (fun ds a Q E h => rd__law_at h), He.glo_ok X G (c.fact 10 (f := .glo "_law_at") rfl), F__law_at.kp, F__law_at.bindsN fun _ _ _ _ _ _ us hl => match us, hl with | [_, _], _ => rfl⟩
  have c__law_is_integer : CalD P w K mg base 1 "_law_is_integer" (spD K (cI K) S__law_is_integer) := ⟨_, fd__law_is_integer, ["actual"], fnD F__law_is_integer sc__law_is_integer len__law_is_integer (fun cdv A outer s H E W0 hr => dv__law_is_integer T  cdv A outer s H E W0 hr) (fun ds a Q E h => rd__law_is_integer h), He.glo_ok X G (c.fact 11 (f := .glo "_law_is_integer") rfl), F__law_is_integer.kp, F__law_is_integer.bindsN fun _ _ _ _ _ _ us hl => match us, hl with | [_], _ => rfl⟩
  have c__law_same : ∀ n, CalD P w K mg base (1 + n) "_law_same" (spD K (cI K) (S__law_same n)) := by
    intro n
    induction n with
    | zero => exact ⟨_, fd__law_same, ["actual", "expected"], F__law_same.ok sc__law_same (fun vs H Q E h => by obtain ⟨_, _, _, _, _, _, _, h, _⟩ := h; exact h.elim) (fun cdv A outer s H vs Q E hr h => by obtain ⟨_, _, _, _, _, _, _, h, _⟩ := h; exact h.elim), He.glo_ok X G (c.fact 12 (f := .glo "_law_same") rfl), F__law_same.kp, F__law_same.bindsN fun _ _ _ _ _ _ us hl => match us, hl with | [_, _], _ => rfl⟩
    | succ n ih => exact ⟨_, fd__law_same, ["actual", "expected"], fnD F__law_same sc__law_same len__law_same (fun cdv A outer s H E W0 hr => dv__law_same T n c__law_is_integer ih cdv A outer s H E W0 hr) (fun ds a Q E h => rd__law_same h), He.glo_ok X G (c.fact 12 (f := .glo "_law_same") rfl), F__law_same.kp, F__law_same.bindsN fun _ _ _ _ _ _ us hl => match us, hl with | [_, _], _ => rfl⟩
  have c__law_same := c__law_same 3
  have c__law_next : CalD P w K mg base 3 "_law_next" (spD K (cI K) S__law_next) := ⟨_, fd__law_next, ["state", "limit"], fnD F__law_next sc__law_next len__law_next (fun cdv A outer s H E W0 hr => dv__law_next T c__law_at cdv A outer s H E W0 hr) (fun ds a Q E h => rd__law_next h), He.glo_ok X G (c.fact 13 (f := .glo "_law_next") rfl), F__law_next.kp, F__law_next.bindsN fun _ _ _ _ _ _ us hl => match us, hl with | [_, _], _ => rfl⟩
  have c__law_after : CalD P w K mg base 1 "_law_after" (spD K (cI K) S__law_after) := ⟨_, fd__law_after, ["data", "steps"], fnD F__law_after sc__law_after len__law_after (fun cdv A outer s H E W0 hr => dv__law_after T  cdv A outer s H E W0 hr) (fun ds a Q E h => rd__law_after h), He.glo_ok X G (c.fact 14 (f := .glo "_law_after") rfl), F__law_after.kp, F__law_after.bindsN fun _ _ _ _ _ _ us hl => match us, hl with | [_, _], _ => rfl⟩
  have c__law_deed : CalD P w K mg base 5 "_law_deed" (spD K (cI K) S__law_deed) := ⟨_, fd__law_deed, ["state", "file", "lasting", "steps"], fnD F__law_deed sc__law_deed len__law_deed (fun cdv A outer s H E W0 hr => dv__law_deed T c_File_flush c_File_lose c_File_shorten c_File_write c__law_after c__law_next c__law_same cdv A outer s H E W0 hr) (fun ds a Q E h => rd__law_deed h), He.glo_ok X G (c.fact 15 (f := .glo "_law_deed") rfl), F__law_deed.kp, F__law_deed.bindsN fun _ _ _ _ _ _ us hl => match us, hl with | [_, _, _, _], _ => rfl⟩
  have c__applied_M : CalD P w K mg base 1 "_applied" (spD K (cI K) S__applied_M) := ⟨_, fd__applied, ["data", "steps"], fnD F__applied sc__applied_M len__applied_M (fun cdv A outer s H E W0 hr => dv__applied_M T  cdv A outer s H E W0 hr) (fun ds a Q E h => rd__applied_M h), He.glo_ok X G (c.fact 0 (f := .glo "_applied") rfl), F__applied.kp, F__applied.bindsN fun _ _ _ _ _ _ us hl => match us, hl with | [_, _], _ => rfl⟩
  have c_File_content_M : MetD P w K mg base 2 ((cI K).ad 0) "content" (spD K (cI K) S_File_content_M) := ⟨_, fd_File_content, ["self"], T.cl_0, He.meth_ok (c.fact 6 (f := .meth "File" "content") rfl), fnD F_File_content sc_File_content_M len_File_content_M (fun cdv A outer s H E W0 hr => dv_File_content_M T c__applied_M cdv A outer s H E W0 hr) (fun ds a Q E h => rd_File_content_M h), F_File_content.bindsN fun _ _ _ _ _ _ us hl => match us, hl with | [_], _ => rfl⟩
  exact fnD F_law sc_law len_law (fun cdv A outer s H E W0 hr => dv_law T c_File___init__ c_File_content c_File_content_M c_File_flush c_File_lose c_File_pending c_File_write c__law_after c__law_deed c__law_draws c__law_next c__law_same cdv A outer s H E W0 hr) (fun ds a Q E h => rd_law h)
end K9
open PySem PySem.W PySem.Calls PyProof.Rows
theorem PySem.Challenge.cw_chipwhole_k09_files_keep_a_beginning_holds : PySem.Challenge.rw_chipwhole_k09_files_keep_a_beginning.Holds := by
  w_on; o_law
  refine HandSHeadRun.head_any (r := OpenLaw.row PySem.Challenge.rw_chipwhole_k09_files_keep_a_beginning) (q := view (OpenLaw.row PySem.Challenge.rw_chipwhole_k09_files_keep_a_beginning).prog [12]) (H := K9.hk) (ob := K9.ob) (M := 4000) (loose := ["_applied", "File", "_law_mix", "_law_draws", "_law_at", "_law_is_integer", "_law_same", "_law_next", "_law_after", "_law_deed"]) (d := HandSHeadRun.topDef (OpenLaw.row PySem.Challenge.rw_chipwhole_k09_files_keep_a_beginning).prog 12) (kwd := []) K9.ob_eq
    (by kernel_rfl) (fun s => by kernel_rfl) K9.run (by kernel_rfl) (by kernel_rfl) (by kernel_rfl) (by rfl) (by first | assumption | decide +kernel) (by decide +kernel) ⟨rfl, rfl, rfl, rfl, rfl, by decide +kernel⟩ ?hw ?hc
  case hw => w_witness2
  case hc =>
    refine L2.walk_ofE (l := PySem.Challenge.rw_chipwhole_k09_files_keep_a_beginning) (n := 63) (k := 6) (x := "script") (CX := L2.CX0) rfl (by decide) (by kernel_rfl) ⟨rfl, by decide, by decide⟩ ?F (fun _ _ _ _ z => z)
    intro w mg fa h Y G hmg0
    obtain ⟨K, KX, c⟩ := Y
    have hmg : mg ("law" : PySem.Str) = some (.ref fa) := by
      have e : (HandSHeadRun.topDef (OpenLaw.row PySem.Challenge.rw_chipwhole_k09_files_keep_a_beginning).prog 12).name = ("law" : PySem.Str) := by kernel_rfl
      rw [← e]
      exact hmg0
    obtain ⟨fd, hb, hF⟩ := K9.facts (P := (PySem.Challenge.rw_chipwhole_k09_files_keep_a_beginning).prog) (w := w) KX G hmg c
    exact ⟨K, fd, DW.spD K (K9.cI K) K9.S_law, KX, hb, fun H a ns hl _ hS => DW.entry hS (K9.law_ok hl), hF⟩

