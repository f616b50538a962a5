import PyProof.Rows.All
import Wide.All
import OpenK.AllK
import Wide.FinOn
import HandS.ForMost
import HandS.IsInst
import HandS.Zip
import HandS.Rev
import HandS.Wide
import HandS.TupAny
import HandS.Star
import HandS.CallLocal
import HandS.Style
import HandS.Exc
import HandS.Walk
import HandS.Evl
import HandS.Text
import HandS.Iter
import HandS.Defaults
import PyProof.Rows.StrOr
import PyProof.StrBlock2
import PyProof.Rows.StrMul
import KE.GoesEnum
import HandS.Codes
import PySem.Challenge.RW_samebyclock_k79_whole_texts_written_and
set_option Elab.async false
set_option linter.all false
set_option maxRecDepth 100000
set_option maxHeartbeats 4000000
namespace Z
open PySem L2
def pl (B F : Hp) : Hp := fun a => match F a with
  | some o => some o
  | none => B a
def Dj (B F : Hp) : Prop := ∀ a o, F a = some o → B a = none
section
variable {B B' F F' H : Hp} {a p : Addr} {o u : HO}
theorem pl_F (h : F a = some o) : pl B F a = some o := by
  unfold pl
  rw [h]
theorem pl_B (h : F a = none) : pl B F a = B a := by
  unfold pl
  rw [h]
theorem pl_none (h : pl B F a = none) : F a = none ∧ B a = none := by
  cases e : F a with
  | none => exact ⟨rfl, by rw [pl_B e] at h; exact h⟩
  | some o =>
    rw [pl_F e] at h
    cases h
theorem pl_same (d : Dj B F) : Same B (pl B F) := fun b o e => by
  cases q : F b with
  | none => rw [pl_B q]; exact e
  | some x =>
    rw [d b x q] at e
    cases e
theorem pl_updF : upd (pl B F) p o = pl B (upd F p o) := by
  funext b
  by_cases e : b = p
  · subst e
    rw [upd_same, pl_F upd_same]
  · rw [upd_ne e]
    unfold pl
    rw [upd_ne e]
theorem pl_updB (h : F p = none) : upd (pl B F) p o = pl (upd B p o) F := by
  funext b
  by_cases e : b = p
  · subst e
    rw [upd_same, pl_B h, upd_same]
  · rw [upd_ne e]
    unfold pl
    rw [upd_ne e]
theorem same_upd (h : B p = none) : Same B (upd B p o) := fun b x e => by
  rw [upd_ne (ne_of_none e h)]
  exact e
theorem dj_updB (d : Dj B F) (h : F p = none) : Dj (upd B p o) F := fun b x e => by
  rw [upd_ne (ne_of_none e h)]
  exact d b x e
theorem dj_updF (d : Dj B F) (h : B p = none) : Dj B (upd F p o) := fun b x e => by
  by_cases q : b = p
  · rw [q]; exact h
  · rw [upd_ne q] at e
    exact d b x e
end
section
variable {K : PySem.W.Frag} {H H' : Hp}
theorem rd_same {a : Addr} {u : HO} (e : Same H H') (h : Rd H a u) : Rd H' a u := by
  rcases h with h | ⟨o, h⟩
  · exact Or.inl (e a _ h)
  · exact Or.inr ⟨o, e a _ h⟩
theorem sqT_same {a : Addr} {xs : List V} (e : Same H H') (h : SqT K H a xs) : SqT K H' a xs := by
  rcases h with h | h
  · exact Or.inl (rd_same e h)
  · exact Or.inr h
mutual
theorem dp_same (e : Same H H') : ∀ {v : V} {d : PyData}, Dp K H v d → Dp K H' v d
  | _, _, .non => .non
  | _, _, .bl b => .bl b
  | _, _, .int i => .int i
  | _, _, .str x => .str x
  | _, _, .lst s a => .lst (e.seq s) (dpAll_same e a)
  | _, _, .tup s a => .tup (sqT_same e s) (dpAll_same e a)
theorem dpAll_same (e : Same H H') : ∀ {vs : List V} {ds : List PyData}, DpAll K H vs ds → DpAll K H' vs ds
  | _, _, .nil => .nil
  | _, _, .cons a r => .cons (dp_same e a) (dpAll_same e r)
end
theorem dpAll_len : ∀ {vs : List V} {ds : List PyData}, DpAll K H vs ds → vs.length = ds.length
  | _, _, .nil => rfl
  | _, _, .cons _ r => by
    have q := dpAll_len r
    show _ + 1 = _ + 1
    rw [q]
theorem dpAll_get : ∀ {vs : List V} {ds : List PyData} {i : Nat} {v : V} , DpAll K H vs ds → vs[i]? = some v → ∃ d, ds[i]? = some d ∧ Dp K H v d
  | _, _, _, _, .nil, e => by simp at e
  | _, _, 0, _, .cons h _, e => by
    simp at e
    subst e
    exact ⟨_, rfl, h⟩
  | _, _, i + 1, _, .cons _ r, e => by
    obtain ⟨d, h1, h2⟩ := dpAll_get (i := i) r (by simpa using e)
    exact ⟨d, by simpa using h1, h2⟩
theorem dpAll_app : ∀ {vs : List V} {ds : List PyData} {v : V} {d : PyData}, DpAll K H vs ds → Dp K H v d → DpAll K H (vs ++ [v]) (ds ++ [d])
  | _, _, _, _, .nil, h => .cons h .nil
  | _, _, _, _, .cons a r, h => .cons a (dpAll_app r h)
theorem dpAll_cat : ∀ {vs ws : List V} {ds es : List PyData}, DpAll K H vs ds → DpAll K H ws es → DpAll K H (vs ++ ws) (ds ++ es)
  | _, _, _, _, .nil, h => h
  | _, _, _, _, .cons a r, h => .cons a (dpAll_cat r h)
theorem dpAll_set : ∀ {vs : List V} {ds : List PyData} {v : V} {d : PyData} (i : Nat), DpAll K H vs ds → Dp K H v d → DpAll K H (vs.set i v) (ds.set i d)
  | _, _, _, _, _, .nil, _ => .nil
  | _, _, _, _, 0, .cons _ r, h => .cons h r
  | _, _, _, _, i + 1, .cons a r, h => .cons a (dpAll_set i r h)
theorem dpAll_take : ∀ {vs : List V} {ds : List PyData} (n : Nat), DpAll K H vs ds → DpAll K H (vs.take n) (ds.take n)
  | _, _, 0, _ => .nil
  | _, _, _ + 1, .nil => .nil
  | _, _, n + 1, .cons a r => .cons a (dpAll_take n r)
theorem dpAll_drop : ∀ {vs : List V} {ds : List PyData} (n : Nat), DpAll K H vs ds → DpAll K H (vs.drop n) (ds.drop n)
  | _, _, 0, r => r
  | _, _, _ + 1, .nil => .nil
  | _, _, n + 1, .cons _ r => dpAll_drop n r
theorem dpAll_rev : ∀ {vs : List V} {ds : List PyData}, DpAll K H vs ds → DpAll K H vs.reverse ds.reverse
  | _, _, .nil => .nil
  | _, _, .cons a r => by
    rw [List.reverse_cons, List.reverse_cons]
    exact dpAll_app (dpAll_rev r) a
theorem dpAll_ints : ∀ {vs : List V} {ns : List Int}, DpAll K H vs (ns.map PyData.int) → vs = ns.map V.int
  | _, [], .nil => rfl
  | _, n :: ns, .cons h r => by
    cases h
    rw [dpAll_ints r]
    rfl
theorem dpAll_bools : ∀ {vs : List V} {ns : List Bool}, DpAll K H vs (ns.map PyData.bool) → vs = ns.map V.bl
  | _, [], .nil => rfl
  | _, n :: ns, .cons h r => by
    cases h
    rw [dpAll_bools r]
    rfl
theorem ints_dpAll : ∀ ns : List Int, DpAll K H (ns.map V.int) (ns.map PyData.int)
  | [] => .nil
  | n :: ns => .cons (.int n) (ints_dpAll ns)
end
structure Cell where
  ok : Option V → Hp → Hp → List Addr → Prop
  mono : ∀ {v B B' F fp}, Same B B' → ok v B F fp → ok v B' F fp
  loc : ∀ {v B F F' fp}, (∀ a ∈ fp, F' a = F a) → ok v B F fp → ok v B F' fp
  dom : ∀ {v B F fp}, ok v B F fp → ∀ a ∈ fp, F a ≠ none
/-- nothing is known -/
def cNo : Cell := ⟨fun _ _ _ fp => fp = [], fun _ h => h, fun _ h => h, fun h a m => by rw [h] at m; cases m⟩
/-- a value as it stands -/
def cV (x : V) : Cell := ⟨fun v _ _ fp => fp = [] ∧ v = some x, fun _ h => h, fun _ h => h, fun h a m => by rw [h.1] at m; cases m⟩
/-- data that never changes -/
def cD (K : PySem.W.Frag) (d : PyData) : Cell := ⟨fun v B _ fp => fp = [] ∧ ∃ x, v = some x ∧ Dp K B x d, fun e ⟨h, x, ex, r⟩ => ⟨h, x, ex, dp_same e r⟩, fun _ h => h, fun h a m => by rw [h.1] at m; cases m⟩
/-- a list of one's own, at l -/
def cOwn (K : PySem.W.Frag) (l : Addr) (ds : List PyData) : Cell :=
  ⟨fun v B F fp => fp = [l] ∧ v = some (.ref l) ∧ ∃ vs, F l = some (.lst vs) ∧ DpAll K B vs ds,
   fun e ⟨h, ev, vs, q, r⟩ => ⟨h, ev, vs, q, dpAll_same e r⟩,
   fun k ⟨h, ev, vs, q, r⟩ => ⟨h, ev, vs, (k l (by rw [h]; exact List.mem_singleton.mpr rfl)).trans q, r⟩,
   fun ⟨h, _, vs, q, _⟩ a m => by
     rw [h, List.mem_singleton] at m
     rw [m, q]
     exact fun z => nomatch z⟩
/-- a list or a tuple of the base, its items as values -/
def cL (K : PySem.W.Frag) (xs : List V) : Cell := ⟨fun v B _ fp => fp = [] ∧ ∃ a, v = some (.ref a) ∧ SqL K B a xs, fun e ⟨h, x, ex, r⟩ => ⟨h, x, ex, e.seq r⟩, fun _ h => h, fun h a m => by rw [h.1] at m; cases m⟩
abbrev cI (K : PySem.W.Frag) (n : Int) : Cell := cD K (.int n)
abbrev cB (K : PySem.W.Frag) (b : Bool) : Cell := cD K (.bool b)
abbrev cN (K : PySem.W.Frag) : Cell := cD K .none
def tI (ns : List Int) : PyData := .tuple (ns.map .int)
def lI (ns : List Int) : PyData := .list (ns.map .int)
/-- a cell without a footprint -/
def Cell.Pure (c : Cell) : Prop := ∀ v B F fp, c.ok v B F fp → fp = []
theorem cNo_pure : cNo.Pure := fun _ _ _ _ h => h
theorem cV_pure {x : V} : (cV x).Pure := fun _ _ _ _ h => h.1
theorem cD_pure {K : PySem.W.Frag} {d : PyData} : (cD K d).Pure := fun _ _ _ _ h => h.1
theorem cL_pure {K : PySem.W.Frag} {xs : List V} : (cL K xs).Pure := fun _ _ _ _ h => h.1
/-- a cell that tells which value it is -/
def Cell.Pin (c : Cell) (x : V) : Prop := ∀ v B F fp, c.ok v B F fp → v = some x
theorem cV_pin {x : V} : (cV x).Pin x := fun _ _ _ _ h => h.2
theorem cOwn_pin {K : PySem.W.Frag} {l : Addr} {ds : List PyData} : (cOwn K l ds).Pin (.ref l) := fun _ _ _ _ h => h.2.1
def Holds (B F : Hp) : List Cell → List (Option V) → List Addr → Prop
  | [], [], fp => fp = []
  | c :: cs, v :: vs, fp => ∃ f1 f2, fp = f1 ++ f2 ∧ c.ok v B F f1 ∧ Holds B F cs vs f2
  | [], _ :: _, _ => False
  | _ :: _, [], _ => False
section
variable {B B' F F' : Hp} {c : Cell} {v : Option V}
theorem Holds.cons {cs : List Cell} {vs : List (Option V)} {f1 f2 : List Addr} (h : c.ok v B F f1) (r : Holds B F cs vs f2) : Holds B F (c :: cs) (v :: vs) (f1 ++ f2) := ⟨f1, f2, rfl, h, r⟩
theorem Holds.len : ∀ {cs : List Cell} {vs : List (Option V)} {fp : List Addr}, Holds B F cs vs fp → vs.length = cs.length
  | [], [], _, _ => rfl
  | _ :: cs, _ :: vs, _, ⟨_, _, _, _, r⟩ => congrArg (· + 1) (Holds.len r)
  | [], _ :: _, _, h => h.elim
  | _ :: _, [], _, h => h.elim
theorem Holds.mono (e : Same B B') : ∀ {cs : List Cell} {vs : List (Option V)} {fp : List Addr}, Holds B F cs vs fp → Holds B' F cs vs fp
  | [], [], _, h => h
  | c :: _, _ :: _, _, ⟨f1, f2, ef, h, r⟩ => ⟨f1, f2, ef, c.mono e h, Holds.mono e r⟩
  | [], _ :: _, _, h => h.elim
  | _ :: _, [], _, h => h.elim
theorem Holds.loc : ∀ {cs : List Cell} {vs : List (Option V)} {fp : List Addr}, (∀ a ∈ fp, F' a = F a) → Holds B F cs vs fp → Holds B F' cs vs fp
  | [], [], _, _, h => h
  | c :: _, _ :: _, _, k, ⟨f1, f2, ef, h, r⟩ => ⟨f1, f2, ef, c.loc (fun a m => k a (by rw [ef]; exact List.mem_append_left _ m)) h, Holds.loc (fun a m => k a (by rw [ef]; exact List.mem_append_right _ m)) r⟩
  | [], _ :: _, _, _, h => h.elim
  | _ :: _, [], _, _, h => h.elim
theorem Holds.dom : ∀ {cs : List Cell} {vs : List (Option V)} {fp : List Addr}, Holds B F cs vs fp → ∀ a ∈ fp, F a ≠ none
  | [], [], _, h, a, m => by
    have e : _ = [] := h
    rw [e] at m
    cases m
  | c :: _, _ :: _, _, ⟨f1, f2, ef, h, r⟩, a, m => by
    rw [ef] at m
    rcases List.mem_append.mp m with m | m
    · exact c.dom h a m
    · exact Holds.dom r a m
  | [], _ :: _, _, h, _, _ => h.elim
  | _ :: _, [], _, h, _, _ => h.elim
/-- the i-th cell, its place in the footprint -/
theorem Holds.get : ∀ {cs : List Cell} {vs : List (Option V)} {fp : List Addr} {i : Nat}, Holds B F cs vs fp → cs[i]? = some c →
    ∃ w pre mid post, vs[i]? = some w ∧ fp = pre ++ mid ++ post ∧ c.ok w B F mid ∧ ∀ c' w' mid', c'.ok w' B F mid' → Holds B F (cs.set i c') (vs.set i w') (pre ++ mid' ++ post)
  | [], [], _, _, _, e => by simp at e
  | c0 :: cs, v0 :: vs, _, 0, ⟨f1, f2, ef, h, r⟩, e => by
    simp at e
    subst e
    exact ⟨v0, [], f1, f2, rfl, by simpa using ef, h, fun c' w' mid' q => by
      show Holds B F (c' :: cs) (w' :: vs) ([] ++ mid' ++ f2)
      rw [List.nil_append]
      exact .cons q r⟩
  | c0 :: cs, v0 :: vs, _, i + 1, ⟨f1, f2, ef, h, r⟩, e => by
    obtain ⟨w, pre, mid, post, e1, e2, e3, k⟩ := Holds.get (i := i) r (by simpa using e)
    refine ⟨w, f1 ++ pre, mid, post, by simpa using e1, by rw [ef, e2]; simp, e3, fun c' w' mid' q => ?_⟩
    have z := k c' w' mid' q
    show Holds B F (c0 :: cs.set i c') (v0 :: vs.set i w') _
    rw [show f1 ++ pre ++ mid' ++ post = f1 ++ (pre ++ mid' ++ post) by simp]
    exact .cons h z
  | [], _ :: _, _, _, h, _ => h.elim
  | _ :: _, [], _, _, h, _ => h.elim
theorem Holds.app : ∀ {cs ds : List Cell} {vs ws : List (Option V)} {f1 f2 : List Addr}, Holds B F cs vs f1 → Holds B F ds ws f2 → Holds B F (cs ++ ds) (vs ++ ws) (f1 ++ f2)
  | [], _, [], _, _, _, h, r => by
    have e : _ = [] := h
    subst e
    exact r
  | c :: cs, _, v :: vs, _, _, f2, ⟨g1, g2, ef, h, r⟩, q => by
    rw [ef, List.append_assoc]
    exact .cons h (Holds.app r q)
  | [], _, _ :: _, _, _, _, h, _ => h.elim
  | _ :: _, _, [], _, _, _, h, _ => h.elim
theorem Holds.split : ∀ {cs ds : List Cell} {vs ws : List (Option V)} {fp : List Addr}, vs.length = cs.length → Holds B F (cs ++ ds) (vs ++ ws) fp → ∃ f1 f2, fp = f1 ++ f2 ∧ Holds B F cs vs f1 ∧ Holds B F ds ws f2
  | [], _, [], _, fp, _, h => ⟨[], fp, rfl, rfl, h⟩
  | c :: cs, _, v :: vs, _, _, hl, ⟨g1, g2, ef, h, r⟩ => by
    obtain ⟨f1, f2, e, r1, r2⟩ := Holds.split (Nat.succ.inj hl) r
    exact ⟨g1 ++ f1, f2, by rw [ef, e, List.append_assoc], .cons h r1, r2⟩
  | [], _, _ :: _, _, _, hl, _ => by cases hl
  | _ :: _, _, [], _, _, hl, _ => by cases hl
end
def Sim (B0 F0 : Hp) (cs : List Cell) (σ : List (Option V)) (H : Hp) : Prop :=
  ∃ B F fp, H = pl B F ∧ Dj B F ∧ Same B0 B ∧ Holds B F cs σ fp ∧ fp.Nodup ∧ ∀ a o, F0 a = some o → F a = some o ∧ a ∉ fp
section
variable {B0 B1 F0 H : Hp} {c d : Cell} {cs ts : List Cell} {σ us : List (Option V)} {v w : Option V}
theorem Sim.root (e : Same B0 B1) (S : Sim B1 F0 cs σ H) : Sim B0 F0 cs σ H := by
  obtain ⟨B, F, fp, h1, h2, h3, h4, h5, h6⟩ := S
  exact ⟨B, F, fp, h1, h2, e.trans h3, h4, h5, h6⟩
theorem Sim.len (S : Sim B0 F0 cs σ H) : σ.length = cs.length := by
  obtain ⟨B, F, fp, h1, h2, h3, h4, h5, h6⟩ := S
  exact h4.len
theorem Sim.pop (S : Sim B0 F0 (c :: cs) (v :: σ) H) : Sim B0 F0 cs σ H := by
  obtain ⟨B, F, fp, h1, h2, h3, ⟨f1, f2, ef, h, r⟩, h5, h6⟩ := S
  subst ef
  exact ⟨B, F, f2, h1, h2, h3, r, (List.nodup_append.mp h5).2.1, fun a o e => ⟨(h6 a o e).1, fun m => (h6 a o e).2 (List.mem_append_right _ m)⟩⟩
theorem Sim.swap (S : Sim B0 F0 (c :: d :: cs) (v :: w :: σ) H) : Sim B0 F0 (d :: c :: cs) (w :: v :: σ) H := by
  obtain ⟨B, F, fp, h1, h2, h3, ⟨f1, _, ef, h, ⟨g1, g2, eg, h', r⟩⟩, h5, h6⟩ := S
  subst eg
  subst ef
  refine ⟨B, F, g1 ++ (f1 ++ g2), h1, h2, h3, .cons h' (.cons h r), ?_, fun a o e => ⟨(h6 a o e).1, fun m => (h6 a o e).2 ?_⟩⟩
  · have p : (g1 ++ (f1 ++ g2)).Perm (f1 ++ (g1 ++ g2)) := by
      rw [← List.append_assoc, ← List.append_assoc]
      exact List.Perm.append_right _ List.perm_append_comm
    exact p.nodup_iff.mpr h5
  · simp only [List.mem_append] at m ⊢
    rcases m with m | m | m
    · exact .inr (.inl m)
    · exact .inl m
    · exact .inr (.inr m)
/-- the front cell moves behind n others -/
theorem Sim.front : ∀ {xs : List Cell} {ys : List (Option V)}, ys.length = xs.length → Sim B0 F0 (xs ++ c :: cs) (ys ++ v :: σ) H → Sim B0 F0 (c :: (xs ++ cs)) (v :: (ys ++ σ)) H := by
  intro xs ys hl S
  obtain ⟨B, F, fp, h1, h2, h3, h4, h5, h6⟩ := S
  obtain ⟨f1, f2, ef, r1, ⟨g1, g2, eg, h, r2⟩⟩ := Holds.split hl h4
  subst eg
  subst ef
  refine ⟨B, F, g1 ++ (f1 ++ g2), h1, h2, h3, .cons h (r1.app r2), ?_, fun a o e => ⟨(h6 a o e).1, fun m => (h6 a o e).2 ?_⟩⟩
  · have p : (g1 ++ (f1 ++ g2)).Perm (f1 ++ (g1 ++ g2)) := by
      rw [← List.append_assoc, ← List.append_assoc]
      exact List.Perm.append_right _ List.perm_append_comm
    exact p.nodup_iff.mpr h5
  · simp only [List.mem_append] at m ⊢
    rcases m with m | m | m
    · exact .inr (.inl m)
    · exact .inl m
    · exact .inr (.inr m)
theorem Sim.drop : ∀ {xs : List Cell} {ys : List (Option V)}, ys.length = xs.length → Sim B0 F0 (xs ++ cs) (ys ++ σ) H → Sim B0 F0 cs σ H
  | [], [], _, S => S
  | _ :: _, _ :: _, hl, S => Sim.drop (Nat.succ.inj hl) S.pop
  | [], _ :: _, hl, _ => by cases hl
  | _ :: _, [], hl, _ => by cases hl
/-- the front cell is stored at place i -/
theorem Sim.set (i : Nat) (S : Sim B0 F0 (c :: cs) (v :: σ) H) : Sim B0 F0 (cs.set i c) (σ.set i v) H := by
  obtain ⟨B, F, fp, h1, h2, h3, ⟨f1, f2, ef, h, r⟩, h5, h6⟩ := S
  subst ef
  by_cases hi : i < cs.length
  · obtain ⟨w, pre, mid, post, e1, e2, e3, k⟩ := Holds.get (i := i) (c := cs[i]) r (List.getElem?_eq_getElem hi)
    subst e2
    refine ⟨B, F, pre ++ f1 ++ post, h1, h2, h3, k c v f1 h, ?_, fun a o e => ⟨(h6 a o e).1, fun m => (h6 a o e).2 ?_⟩⟩
    · have s : (f1 ++ (pre ++ post)).Sublist (f1 ++ (pre ++ mid ++ post)) := by
        refine List.Sublist.append_left ?_ _
        exact List.Sublist.append_right (List.sublist_append_left _ _) _
      have n := h5.sublist s
      have p : (pre ++ f1 ++ post).Perm (f1 ++ (pre ++ post)) := by
        rw [← List.append_assoc]
        exact List.Perm.append_right _ List.perm_append_comm
      exact p.nodup_iff.mpr n
    · simp only [List.mem_append] at m ⊢
      rcases m with (m | m) | m
      · exact .inr (.inl (.inl m))
      · exact .inl m
      · exact .inr (.inr m)
  · have hl := r.len
    rw [List.set_eq_of_length_le (by omega), List.set_eq_of_length_le (by omega)]
    exact ⟨B, F, f2, h1, h2, h3, r, (List.nodup_append.mp h5).2.1, fun a o e => ⟨(h6 a o e).1, fun m => (h6 a o e).2 (List.mem_append_right _ m)⟩⟩
/-- a copy of a cell without footprint comes to the front -/
theorem Sim.dup {i : Nat} (hp : c.Pure) (S : Sim B0 F0 cs σ H) (hi : cs[i]? = some c) : ∃ w, σ[i]? = some w ∧ Sim B0 F0 (c :: cs) (w :: σ) H := by
  obtain ⟨B, F, fp, h1, h2, h3, h4, h5, h6⟩ := S
  obtain ⟨w, pre, mid, post, e1, e2, e3, k⟩ := Holds.get h4 hi
  have em := hp _ _ _ _ e3
  subst em
  exact ⟨w, e1, B, F, fp, h1, h2, h3, ⟨[], fp, rfl, e3, h4⟩, h5, h6⟩
/-- of a cell that tells its value -/
theorem Sim.pin {i : Nat} {x : V} (hp : c.Pin x) (S : Sim B0 F0 cs σ H) (hi : cs[i]? = some c) : σ[i]? = some (some x) := by
  obtain ⟨B, F, fp, h1, h2, h3, h4, h5, h6⟩ := S
  obtain ⟨w, pre, mid, post, e1, e2, e3, k⟩ := Holds.get h4 hi
  rw [e1, hp _ _ _ _ e3]
theorem Sim.push {f : V → Prop} {x : V} (S : Sim B0 F0 cs σ H) (h : ∀ B F, (cV x).ok (some x) B F []) : Sim B0 F0 (cV x :: cs) (some x :: σ) H := by
  obtain ⟨B, F, fp, h1, h2, h3, h4, h5, h6⟩ := S
  exact ⟨B, F, fp, h1, h2, h3, ⟨[], fp, rfl, ⟨rfl, rfl⟩, h4⟩, h5, h6⟩
/-- a pure cell that holds of every base -/
theorem Sim.pushV {x : V} (S : Sim B0 F0 cs σ H) : Sim B0 F0 (cV x :: cs) (some x :: σ) H := by
  obtain ⟨B, F, fp, h1, h2, h3, h4, h5, h6⟩ := S
  exact ⟨B, F, fp, h1, h2, h3, ⟨[], fp, rfl, ⟨rfl, rfl⟩, h4⟩, h5, h6⟩
theorem Sim.pushD {K : PySem.W.Frag} {x : V} {d : PyData} (S : Sim B0 F0 cs σ H) (h : ∀ B, Dp K B x d) : Sim B0 F0 (cD K d :: cs) (some x :: σ) H := by
  obtain ⟨B, F, fp, h1, h2, h3, h4, h5, h6⟩ := S
  exact ⟨B, F, fp, h1, h2, h3, ⟨[], fp, rfl, ⟨rfl, x, rfl, h B⟩, h4⟩, h5, h6⟩
/-- what the front cell, data, says of the heap as it stands -/
theorem Sim.dp {K : PySem.W.Frag} {x : V} {d : PyData} (S : Sim B0 F0 (cD K d :: cs) (some x :: σ) H) : Dp K H x d := by
  obtain ⟨B, F, fp, h1, h2, h3, ⟨f1, f2, ef, ⟨_, y, ey, r⟩, _⟩, h5, h6⟩ := S
  cases ey
  rw [h1]
  exact dp_same (pl_same h2) r
theorem Sim.own {K : PySem.W.Frag} {x : V} {l : Addr} {ds : List PyData} (S : Sim B0 F0 (cOwn K l ds :: cs) (some x :: σ) H) : x = .ref l ∧ ∃ vs, H l = some (.lst vs) ∧ DpAll K H vs ds := by
  obtain ⟨B, F, fp, h1, h2, h3, ⟨f1, f2, ef, ⟨_, ey, vs, q, r⟩, _⟩, h5, h6⟩ := S
  cases ey
  rw [h1]
  exact ⟨rfl, vs, pl_F q, dpAll_same (pl_same h2) r⟩
theorem Sim.ownAt {K : PySem.W.Frag} {i : Nat} {l : Addr} {ds : List PyData} (S : Sim B0 F0 cs σ H) (hi : cs[i]? = some (cOwn K l ds)) : σ[i]? = some (some (.ref l)) ∧ ∃ vs, H l = some (.lst vs) ∧ DpAll K H vs ds := by
  obtain ⟨B, F, fp, h1, h2, h3, h4, h5, h6⟩ := S
  obtain ⟨w, pre, mid, post, e1, e2, ⟨_, ew, vs, q, r⟩, k⟩ := Holds.get h4 hi
  rw [e1, ew, h1]
  exact ⟨rfl, vs, pl_F q, dpAll_same (pl_same h2) r⟩
/-- new data: the object p is laid -/
theorem Sim.new {K : PySem.W.Frag} {p : Addr} {o : HO} {d : PyData} (S : Sim B0 F0 (ts ++ cs) (us ++ σ) H) (hl : us.length = ts.length) (hp : H p = none)
    (h : ∀ B F f1, B p = none → Holds B F ts us f1 → Dp K (upd B p o) (.ref p) d) : Sim B0 F0 (cD K d :: cs) (some (.ref p) :: σ) (upd H p o) := by
  obtain ⟨B, F, fp, h1, h2, h3, h4, h5, h6⟩ := S
  subst h1
  obtain ⟨pF, pB⟩ := pl_none hp
  obtain ⟨f1, f2, ef, r1, r2⟩ := Holds.split hl h4
  subst ef
  refine ⟨upd B p o, F, f2, pl_updB pF, dj_updB h2 pF, h3.trans (same_upd pB), ⟨[], f2, rfl, ⟨rfl, _, rfl, h B F f1 pB r1⟩, r2.mono (same_upd pB)⟩, (List.nodup_append.mp h5).2.1, fun a o e => ⟨(h6 a o e).1, fun m => (h6 a o e).2 (List.mem_append_right _ m)⟩⟩
/-- a new list of one's own -/
theorem Sim.newOwn {K : PySem.W.Frag} {p : Addr} {vs : List V} {ds : List PyData} (S : Sim B0 F0 (ts ++ cs) (us ++ σ) H) (hl : us.length = ts.length) (hp : H p = none)
    (h : ∀ B F f1, Holds B F ts us f1 → DpAll K B vs ds) : Sim B0 F0 (cOwn K p ds :: cs) (some (.ref p) :: σ) (upd H p (.lst vs)) := by
  obtain ⟨B, F, fp, h1, h2, h3, h4, h5, h6⟩ := S
  subst h1
  obtain ⟨pF, pB⟩ := pl_none hp
  obtain ⟨f1, f2, ef, r1, r2⟩ := Holds.split hl h4
  subst ef
  have np : p ∉ f2 := fun m => r2.dom p m pF
  refine ⟨B, upd F p (.lst vs), p :: f2, pl_updF, dj_updF h2 pB, h3, ⟨[p], f2, rfl, ⟨rfl, rfl, vs, upd_same, h B F f1 r1⟩, r2.loc fun a m => ?_⟩, ?_, fun a o e => ?_⟩
  · exact upd_ne fun z => np (z ▸ m)
  · exact List.nodup_cons.mpr ⟨np, (List.nodup_append.mp h5).2.1⟩
  · obtain ⟨q1, q2⟩ := h6 a o e
    have na : a ≠ p := fun z => by
      rw [z, pF] at q1
      cases q1
    refine ⟨(upd_ne na).trans q1, fun m => ?_⟩
    rcases List.mem_cons.mp m with z | z
    · exact na z
    · exact q2 (List.mem_append_right _ z)
/-- the i-th cell's own list is changed in place (what is stored stands in front) -/
theorem Sim.mutate {K : PySem.W.Frag} {i : Nat} {l : Addr} {ds ds' : List PyData} {vs' : List V} (S : Sim B0 F0 (ts ++ cs) (us ++ σ) H) (hl : us.length = ts.length) (hi : cs[i]? = some (cOwn K l ds))
    (h : ∀ B F f1 vs, Holds B F ts us f1 → DpAll K B vs ds → H l = some (.lst vs) → DpAll K B vs' ds') : Sim B0 F0 (cs.set i (cOwn K l ds')) σ (upd H l (.lst vs')) := by
  obtain ⟨B, F, fp, h1, h2, h3, h4, h5, h6⟩ := S
  subst h1
  obtain ⟨f1, f2, ef, r1, r2⟩ := Holds.split hl h4
  subst ef
  have n2 := (List.nodup_append.mp h5).2.1
  obtain ⟨w, pre, mid, post, e1, e2, ⟨em, ew, vs, q, r⟩, k⟩ := Holds.get r2 hi
  subst em
  subst e2
  have hB : B l = none := h2 l _ q
  have dd := h B F f1 vs r1 r (pl_F q)
  -- the others do not hold l
  have h7 : l ∉ pre ∧ l ∉ post := by
    rw [List.nodup_append, List.nodup_append] at n2
    obtain ⟨⟨a1, a2, a3⟩, a4, a5⟩ := n2
    exact ⟨fun m => a3 l m l (List.mem_singleton.mpr rfl) rfl, fun m => a5 l (List.mem_append_right _ (List.mem_singleton.mpr rfl)) l m rfl⟩
  have k2 : Holds B F (cs.set i cNo) (σ.set i w) (pre ++ [] ++ post) := k cNo w [] rfl
  have k3 : Holds B (upd F l (.lst vs')) (cs.set i cNo) (σ.set i w) (pre ++ [] ++ post) := k2.loc fun a m => by
    refine upd_ne fun z => ?_
    subst z
    rw [List.append_nil] at m
    rcases List.mem_append.mp m with m | m
    · exact h7.1 m
    · exact h7.2 m
  have hi' : i < cs.length := (List.getElem?_eq_some_iff.mp hi).1
  obtain ⟨w', pre', mid', post', e1', e2', e3', k'⟩ := Holds.get (i := i) (c := cNo) k3 (by rw [List.getElem?_set_self hi'])
  have em' : mid' = [] := e3'
  subst em'
  have k4 := k' (cOwn K l ds') w [l] ⟨rfl, ew, vs', upd_same, dd⟩
  rw [List.set_set, List.set_set] at k4
  have es : σ.set i w = σ := by
    have hs : i < σ.length := (List.getElem?_eq_some_iff.mp e1).1
    have e0 : σ[i] = w := by
      have := e1
      rw [List.getElem?_eq_getElem hs] at this
      exact Option.some.inj this
    rw [← e0, List.set_getElem_self]
  rw [es] at k4
  refine ⟨B, upd F l (.lst vs'), _, pl_updF, dj_updF h2 hB, h3, k4, ?_, fun a o e => ?_⟩
  · have p : (pre' ++ [l] ++ post').Perm (l :: (pre' ++ post')) := by simp
    rw [p.nodup_iff]
    have e5 : pre' ++ post' = pre ++ post := by simpa using e2'.symm
    rw [e5]
    refine List.nodup_cons.mpr ⟨fun m => ?_, ?_⟩
    · rcases List.mem_append.mp m with m | m
      · exact h7.1 m
      · exact h7.2 m
    · exact n2.sublist (List.Sublist.append_right (List.sublist_append_left _ _) _)
  · obtain ⟨q1, q2⟩ := h6 a o e
    have na : a ≠ l := fun z => by
      subst z
      exact q2 (List.mem_append_right _ (by simp))
    refine ⟨(upd_ne na).trans q1, fun m => q2 (List.mem_append_right _ ?_)⟩
    have e5 : pre' ++ post' = pre ++ post := by simpa using e2'.symm
    have m2 : a = l ∨ a ∈ pre' ++ post' := by
      simp only [List.mem_append, List.mem_singleton] at m ⊢
      rcases m with (m | m) | m
      · exact .inr (.inl m)
      · exact .inl m
      · exact .inr (.inr m)
    rcases m2 with m2 | m2
    · exact absurd m2 na
    · rw [e5] at m2
      simp only [List.mem_append] at m2 ⊢
      rcases m2 with m2 | m2
      · exact .inl (.inl m2)
      · exact .inr m2
/-- the front cell, a list of one's own, becomes data -/
theorem Sim.freeze {K : PySem.W.Frag} {x : Option V} {l : Addr} {ds : List PyData} (S : Sim B0 F0 (cOwn K l ds :: cs) (x :: σ) H) : Sim B0 F0 (cD K (.list ds) :: cs) (x :: σ) H := by
  obtain ⟨B, F, fp, h1, h2, h3, ⟨f1, f2, ef, ⟨e1, ey, vs, q, r⟩, r2⟩, h5, h6⟩ := S
  subst e1
  subst ef
  subst h1
  have hB : B l = none := h2 l _ q
  have nl : l ∉ f2 := (List.nodup_cons.mp h5).1
  let F' : Hp := fun a => if a = l then none else F a
  have eF : ∀ a, a ≠ l → F' a = F a := fun a h => if_neg h
  have eL : F' l = none := if_pos rfl
  refine ⟨upd B l (.lst vs), F', f2, ?_, fun a o e => ?_, h3.trans (same_upd hB), ⟨[], f2, rfl, ⟨rfl, _, ey, .lst (SqL.of upd_same) (dpAll_same (same_upd hB) r)⟩, ?_⟩, (List.nodup_cons.mp h5).2, fun a o e => ?_⟩
  · funext a
    by_cases e : a = l
    · subst e
      rw [pl_F q, pl_B eL, upd_same]
    · unfold pl
      rw [eF a e, upd_ne e]
  · have na : a ≠ l := fun z => by
      rw [z, eL] at e
      cases e
    rw [upd_ne na]
    rw [eF a na] at e
    exact h2 a o e
  · exact (r2.mono (same_upd hB)).loc fun a m => eF a fun z => nl (z ▸ m)
  · obtain ⟨q1, q2⟩ := h6 a o e
    have na : a ≠ l := fun z => by
      subst z
      exact q2 (by simp)
    exact ⟨(eF a na).trans q1, fun m => q2 (List.mem_append_right _ m)⟩
end
end Z
namespace Z
open PySem PySem.Spec PyProof.Rows L2
/-- a list (false) or a tuple (true) that is read -/
def Sq (K : PySem.W.Frag) (b : Bool) (H : Hp) (a : Addr) (xs : List V) : Prop := if b = true then SqT K H a xs else SqL K H a xs
/-- its object, its iterator -/
def SqO (b : Bool) (h : Heap) (a : Addr) (its : Array Value) : Prop := if b = true then h.IsTuple a its else h.IsList a its
def SqI (b : Bool) (h : Heap) (it a : Addr) (i : Nat) : Prop := if b = true then h.IsTupleIter it a i else h.IsListIter it a i
def itObj (b : Bool) (a : Addr) : Obj := if b = true then { cls := .type "tuple_iterator", data := .fields #[.ref a, .int 0 0] } else { cls := .type "list_iterator", data := .fields #[.ref a, .int 0 0] }
theorem Sq.same {K : PySem.W.Frag} {b : Bool} {H H' : Hp} {a : Addr} {xs : List V} (e : Same H H') (h : Sq K b H a xs) : Sq K b H' a xs := by
  cases b with
  | true => exact sqT_same e h
  | false => exact e.seq h
theorem sq_obj {X : Cx} {pins : List (Addr × Obj)} {σ : L2.St} {H : Hp} {s : Shared} {b : Bool} {a : Addr} {xs : List V} (I : Inv X pins σ H s) (h : Sq X.K b H a xs) : ∃ its : List Value, Vals xs its ∧ SqO b s.heap a its.toArray := by
  cases b with
  | true =>
    obtain ⟨its, r, p, _⟩ := I.tuple h
    exact ⟨its, r, p⟩
  | false =>
    obtain ⟨its, r, p, _⟩ := I.list h
    exact ⟨its, r, p.isList⟩
theorem sq_inj {X : Cx} {pins : List (Addr × Obj)} {σ : L2.St} {H : Hp} {s : Shared} {b : Bool} {a : Addr} {xs ys : List V} (I : Inv X pins σ H s) (h : Sq X.K b H a xs) (h' : Sq X.K b H a ys) : xs = ys := by
  cases b with
  | true => exact I.tuple_inj h h'
  | false => exact I.list_inj h h'
theorem sqO_lt {b : Bool} {h : Heap} {a : Addr} {its : Array Value} (o : SqO b h a its) : a < h.objs.size := by
  cases b with
  | true => obtain ⟨_, e, _⟩ := o; exact Heap.lt_size e
  | false => obtain ⟨_, e, _⟩ := o; exact Heap.lt_size e
theorem sqI_lt {b : Bool} {h : Heap} {it a : Addr} {i : Nat} (o : SqI b h it a i) : it < h.objs.size := by
  cases b with
  | true => obtain ⟨_, e, _⟩ := o; exact Heap.lt_size e
  | false => obtain ⟨_, e, _⟩ := o; exact Heap.lt_size e
theorem sqI_obj {b : Bool} {h : Heap} {it a : Addr} {i : Nat} (o : SqI b h it a i) : ∃ x, h.get? it = some x ∧ ∀ v, x.data ≠ .cell v := by
  cases b with
  | true => obtain ⟨x, e, _, d⟩ := o; exact ⟨x, e, fun v z => by rw [d] at z; cases z⟩
  | false => obtain ⟨x, e, _, d⟩ := o; exact ⟨x, e, fun v z => by rw [d] at z; cases z⟩
theorem sqI_at {b : Bool} {h h' : Heap} {it a : Addr} {i : Nat} (k : ∀ x, h.get? it = some x → h'.get? it = some x) (o : SqI b h it a i) : SqI b h' it a i := by
  cases b with
  | true => exact (show h.IsTupleIter it a i from o).at k
  | false => exact (show h.IsListIter it a i from o).at k
theorem sqI_new {b : Bool} {h : Heap} {it a : Addr} (e : h.get? it = some (itObj b a)) : SqI b h it a 0 := by
  cases b with
  | true => exact ⟨_, e, rfl, rfl⟩
  | false => exact ⟨_, e, rfl, rfl⟩
theorem sq_draws {prog : Program} {w : World} {A : Around} (hh : A.handled = none) (b : Bool) (it a : Addr) (ne : a ≠ it) (its : Array Value) :
    Draws prog w A it [it, a] its.size (fun i v => its[i]? = some v) (fun i h => SqI b h it a i ∧ SqO b h a its) := by
  cases b with
  | true => exact Draws.tuple hh it a ne its
  | false => exact Draws.list hh it a ne its
theorem sq_begins (b : Bool) (a : Addr) (its : Array Value) : Begins (.ref a) (itObj b a) fun h => SqO b h a its := by
  cases b with
  | true => exact begins_tuple a its
  | false => exact begins_list a its
def ItzM (K : PySem.W.Frag) (b1 b2 : Bool) (a c : Addr) : It :=
  ⟨fun i H => ∃ (xs ys : List V) (x y : V), Sq K b1 H a xs ∧ Sq K b2 H c ys ∧ xs[i]? = some x ∧ ys[i]? = some y,
   fun i H v H' => ∃ T x y, v = .ref T ∧ H T = none ∧ H' = upd H T (.tup [x, y]) ∧ (∀ xs, Sq K b1 H a xs → xs[i]? = some x) ∧ ∀ ys, Sq K b2 H c ys → ys[i]? = some y,
   fun i H => ∃ xs ys : List V, Sq K b1 H a xs ∧ Sq K b2 H c ys ∧ i = min xs.length ys.length⟩
theorem turn_zipM {P : Program} {w : World} {K : PySem.W.Frag} {elts : List Expr} {kk : Nat} {tpos : Pos} {b1 b2 : Bool} {a c z TI TO i1 i2 : Addr} (S : ZipSep2 z TI TO i1 i2 [i1, a] [i2, c]) (na : a ≠ i1) (nc : c ≠ i2) :
    Turn P w K (.Tuple elts kk tpos) (ItzM K b1 b2 a c) [z, TI, TO, i1, i2] z (fun i h => IsZip h z TI TO .none ∧ IsTupOf2 h TI (.ref i1) (.ref i2) ∧ (∃ x y, IsTupOf2 h TO x y) ∧ SqI b1 h i1 a i ∧ SqI b2 h i2 c i) where
  mem := by simp
  obj := fun i h st q hq => by
    obtain ⟨hz, hTI, ⟨x, y, hTO⟩, h1, h2⟩ := st
    have e : q = z ∨ q = TI ∨ q = TO ∨ q = i1 ∨ q = i2 := by simpa using hq
    rcases e with e | e | e | e | e
    · subst e; exact ⟨_, hz, fun v q => nomatch q⟩
    · subst e; exact ⟨_, hTI, fun v q => nomatch q⟩
    · subst e; exact ⟨_, hTO, fun v q => nomatch q⟩
    · subst e; exact sqI_obj h1
    · subst e; exact sqI_obj h2
  keep := fun i h h' st k => by
    obtain ⟨hz, hTI, ⟨x, y, hTO⟩, h1, h2⟩ := st
    exact ⟨k z (by simp) _ hz, k TI (by simp) _ hTI, ⟨x, y, k TO (by simp) _ hTO⟩, sqI_at (fun o e => k i1 (by simp) o e) h1, sqI_at (fun o e => k i2 (by simp) o e) h2⟩
  item := by
    intro X e1 e2 e3 calm i pins s σ H E I hf st hg
    subst e1 e2 e3
    obtain ⟨hz, hTI, ⟨x0, y0, hTO⟩, h1, h2⟩ := st
    obtain ⟨xs, ys, x, y, qx, qy, gx, gy⟩ := hg
    obtain ⟨us, ru, ou⟩ := sq_obj I qx
    obtain ⟨ws, rw1, ow⟩ := sq_obj I qy
    obtain ⟨u, gu, eu⟩ := ru.get gx
    obtain ⟨v, gv, ev⟩ := rw1.get gy
    refine wpAny_pyNext_zipD2_item S (sq_draws (prog := X.prog) (w := X.w) (A := X.A.in1) (I.ok.hd calm) b1 i1 a na us.toArray) (sq_draws (prog := X.prog) (w := X.w) (A := X.A.in1) (I.ok.hd calm) b2 i2 c nc ws.toArray) hz hTI hTO ⟨h1, ou⟩ ⟨h2, ow⟩ (i := i)
      (by have := (List.getElem?_eq_some_iff.mp gu).1; rw [List.size_toArray]; exact this) (by have := (List.getElem?_eq_some_iff.mp gv).1; rw [List.size_toArray]; exact this) fun p q h' tk hp hq z' TO' s1 s2 hT hsz kp => ?_
    have ep : p = u := by
      have e : us[i]? = some p := by simpa using hp
      rw [gu] at e
      exact (Option.some.inj e).symm
    have eq : q = v := by
      have e : ws[i]? = some q := by simpa using hq
      rw [gv] at e
      exact (Option.some.inj e).symm
    subst ep eq
    have hzl : z < s.heap.objs.size := Heap.lt_size hz
    refine ⟨_, rfl, wpAny_letOwnedTupleGo_zip (s := { s with heap := h', toks := tk }) z' fun g zz sb => ?_⟩
    have gT : g.get? s.heap.objs.size = some { cls := .type "tuple", data := .seq #[p, q] } := (sb.2 _ (Nat.ne_of_gt hzl)).trans hT
    have fresh : ObjOk X.prog X.w (upd H s.heap.objs.size (.tup [x, y])) g s.heap.objs.size (.tup [x, y]) :=
      ⟨by show 2 ≤ sizeLine; decide, [p, q], .cons eu (.cons ev .nil), ⟨_, gT, rfl, _, rfl⟩⟩
    have J := I.turnedNew (t' := tk) (ch := [z, TI, TO, i1, i2]) (fun d o hd e => (sb.2 d (fun w' => hd (by simp [w']))).trans (kp d o (fun w' => hd (by simp [w'])) (fun w' => hd (by simp [w'])) (fun w' => hd (by simp [w'])) (fun w' => hd (by simp [w'])) e)) hf (Nat.le_refl _) fresh
    refine ⟨.ref s.heap.objs.size, _, J, rfl, ⟨_, x, y, rfl, I.hok.fresh (Nat.le_refl _), rfl, fun l hl => by rw [sq_inj I hl qx]; exact gx, fun l hl => by rw [sq_inj I hl qy]; exact gy⟩, ⟨zz, ?_, ⟨p, q, ?_⟩, ?_, ?_⟩, fun d hd => ?_⟩
    · exact (sb.2 _ S.TIz).trans (kp _ _ S.TIz S.TITO S.TIi1 S.TIi2 hTI)
    · exact (sb.2 _ S.TOz).trans TO'
    · exact sqI_at (fun o e => (sb.2 _ (Ne.symm S.zi1)).trans e) s1.1
    · exact sqI_at (fun o e => (sb.2 _ (Ne.symm S.zi2)).trans e) s2.1
    · have hlt : d < s.heap.objs.size := by
        have e : d = z ∨ d = TI ∨ d = TO ∨ d = i1 ∨ d = i2 := by simpa using hd
        rcases e with e | e | e | e | e
        · subst e; exact hzl
        · subst e; exact Heap.lt_size hTI
        · subst e; exact Heap.lt_size hTO
        · subst e; exact sqI_lt h1
        · subst e; exact sqI_lt h2
      rw [upd_ne (Nat.ne_of_lt hlt)]
      exact (hf d hd).1
  done := by
    intro X e1 e2 e3 calm i pins s σ H E I hf st hg
    subst e1 e2 e3
    obtain ⟨hz, hTI, ⟨x0, y0, hTO⟩, h1, h2⟩ := st
    obtain ⟨xs, ys, qx, qy, hi⟩ := hg
    obtain ⟨us, ru, ou⟩ := sq_obj I qx
    obtain ⟨ws, rw1, ow⟩ := sq_obj I qy
    have l1 := ru.length
    have l2 := rw1.length
    exact wpAny_pyNext_zipD2_end S (sq_draws (prog := X.prog) (w := X.w) (A := X.A.in1) (I.ok.hd calm) b1 i1 a na us.toArray) (sq_draws (prog := X.prog) (w := X.w) (A := X.A.in1) (I.ok.hd calm) b2 i2 c nc ws.toArray) hz hTI hTO ⟨h1, ou⟩ ⟨h2, ow⟩ (i := i)
      (by rw [List.size_toArray]; omega) (by rw [List.size_toArray]; omega) (by rw [List.size_toArray, List.size_toArray]; omega) fun h' tk kp => ⟨rfl, I.turnedL (t' := tk) (ch := [z, TI, TO, i1, i2])
        (fun d o hd e => kp d o (fun w' => hd (by simp [w'])) (fun w' => hd (by simp [w'])) (fun w' => hd (by simp [w'])) (fun w' => hd (by simp [w'])) e) hf⟩
  self := fun A i s Q E st h => wpAny_pyIter_zip st.1 h
def iZipM (K : PySem.W.Frag) (b1 b2 : Bool) (ta : TA) : TI := fun σ H R => ta σ H fun vs H1 => ∃ a c xs ys, vs = [.ref a, .ref c] ∧ Sq K b1 H1 a xs ∧ Sq K b2 H1 c ys ∧ R (ItzM K b1 b2 a c) H1
theorem pi_zipM (b1 b2 : Bool) {X : Cx} {e e2 : Expr} {ta : TA} {p pos tpos : Pos} {elts : List Expr} {kk : Nat} (hg : Gl X "zip") (hm : X.mg "zip" = none) (ha : PA X [e, e2] ta)
    (hs : starEach [e, e2] X.env = (false, eval e X.env) :: starEach [e2] X.env := by rfl) (hpl : (backTo pos (starEach [e2] X.env)).any (·.1) = false := by rfl) :
    PI X (.Tuple elts kk tpos) (.Call (.Name "zip" p) [e, e2] [] pos) (iZipM X.K b1 b2 ta) := by
  refine ⟨fun pins s σ H R I h => ?_⟩
  refine Call_ (ld_blt I hg hm PyProof.Rows.boot_zip (PyProof.Rows.callWith_type1 (thn (ha.run pos pins s σ H _ I h) fun us s1 ⟨vs, H1, I1, r1, q1⟩ => ?_) hs hpl))
  obtain ⟨a, c, xs, ys, ex, qx, qy, q⟩ := q1
  subst ex
  cases r1 with
  | cons r rr =>
    cases rr with
    | cons r' rr =>
      cases rr
      cases r
      cases r'
      obtain ⟨us, ru, ou⟩ := sq_obj I1 qx
      obtain ⟨ws, rw1, ow⟩ := sq_obj I1 qy
      have la := sqO_lt ou
      have lc := sqO_lt ow
      refine zip_begins2 (sq_begins b1 a us.toArray) (sq_begins b2 c ws.toArray) ou ow fun h' hz hTI hTO g1 g2 hsz kp => wpAny_pyIter_zip hz ?_
      have I2 : Inv X pins σ H1 { s1 with heap := h' } := I1.kept (t' := s1.toks) kp
      have S : ZipSep2 (s1.heap.objs.size + 4) (s1.heap.objs.size + 2) (s1.heap.objs.size + 3) s1.heap.objs.size (s1.heap.objs.size + 1) [s1.heap.objs.size, a] [s1.heap.objs.size + 1, c] :=
        zip_sep2 (fun b hb => by rw [List.mem_singleton.mp hb]; exact la) (fun b hb => by rw [List.mem_singleton.mp hb]; exact lc)
      refine ⟨s1.heap.objs.size + 4, [s1.heap.objs.size + 4, s1.heap.objs.size + 2, s1.heap.objs.size + 3, s1.heap.objs.size, s1.heap.objs.size + 1], _, _, H1, rfl, I2,
        turn_zipM S (Nat.ne_of_lt la) (Nat.ne_of_lt (Nat.lt_succ_of_lt lc)), ⟨hz, hTI, ⟨_, _, hTO⟩, sqI_new g1, sqI_new g2⟩, fun d hd => ?_, q⟩
      have e : d = s1.heap.objs.size + 4 ∨ d = s1.heap.objs.size + 2 ∨ d = s1.heap.objs.size + 3 ∨ d = s1.heap.objs.size ∨ d = s1.heap.objs.size + 1 := by simpa using hd
      have hle : s1.heap.objs.size ≤ d := by
        rcases e with e | e | e | e | e
        · rw [e]; exact Nat.le_add_right _ _
        · rw [e]; exact Nat.le_add_right _ _
        · rw [e]; exact Nat.le_add_right _ _
        · rw [e]; exact Nat.le_refl _
        · rw [e]; exact Nat.le_add_right _ _
      exact I1.fpOk hle (I1.hok.fresh hle)
theorem walk_zipM {K : PySem.W.Frag} {b1 b2 : Bool} {a c : Addr} {xs ys : List V} : Walk (ItzM K b1 b2 a c) (min xs.length ys.length) (fun H => Sq K b1 H a xs ∧ Sq K b2 H c ys) (YPair (fun i => xs[i]?) (fun i => ys[i]?)) :=
  ⟨fun i _ hi q => ⟨xs, ys, xs[i]'(by omega), ys[i]'(by omega), q.1, q.2, List.getElem?_eq_getElem (by omega), List.getElem?_eq_getElem (by omega)⟩, fun _ q => ⟨xs, ys, q.1, q.2, rfl⟩,
   fun _ _ _ _ _ q ⟨T, x, y, e, n, u, h1, h2⟩ => ⟨T, x, y, e, n, u, h1 xs q.1, h2 ys q.2⟩⟩
def IteM (K : PySem.W.Frag) (b : Bool) (a : Addr) : It :=
  ⟨fun i H => ∃ (xs : List V) (x : V), Sq K b H a xs ∧ xs[i]? = some x,
   fun i H v H' => ∃ T x, v = .ref T ∧ H T = none ∧ H' = upd H T (.tup [.int (i : Nat), x]) ∧ ∀ xs, Sq K b H a xs → xs[i]? = some x,
   fun i H => ∃ xs : List V, Sq K b H a xs ∧ i = xs.length⟩
theorem turn_enumM {P : Program} {w : World} {K : PySem.W.Frag} {elts : List Expr} {kk : Nat} {tpos : Pos} {b : Bool} {a e it : Addr} (na : a ≠ it) (ne : a ≠ e) (hei : e ≠ it) :
    Turn P w K (.Tuple elts kk tpos) (IteM K b a) [e, it] e (fun i h => (∃ old, IsEnum h e it ((i : Nat) : Int) old) ∧ SqI b h it a i) where
  mem := by simp
  obj := fun i h st d hd => by
    obtain ⟨⟨old, he⟩, h1⟩ := st
    have q : d = e ∨ d = it := by simpa using hd
    rcases q with q | q
    · subst q; exact ⟨_, he, fun v q => nomatch q⟩
    · subst q; exact sqI_obj h1
  keep := fun i h h' st k => by
    obtain ⟨⟨old, he⟩, h1⟩ := st
    exact ⟨⟨old, k e (by simp) _ he⟩, sqI_at (fun o q => k it (by simp) o q) h1⟩
  item := by
    intro X e1 e2 e3 calm i pins s σ H E I hf st hg
    subst e1 e2 e3
    obtain ⟨⟨old, he⟩, h1⟩ := st
    obtain ⟨xs, x, qx, gx⟩ := hg
    obtain ⟨us, ru, ou⟩ := sq_obj I qx
    obtain ⟨u, gu, eu⟩ := ru.get gx
    have hel : e < s.heap.objs.size := Heap.lt_size he
    refine wpAny_pyNext_enum_itemD (sq_draws (prog := X.prog) (w := X.w) (A := X.A.in1) (I.ok.hd calm) b it a na us.toArray) he ⟨h1, ou⟩ (i := i) (by have := (List.getElem?_eq_some_iff.mp gu).1; rw [List.size_toArray]; exact this) hei
      (by simp only [List.mem_cons, List.not_mem_nil, or_false, not_or]; exact ⟨hei, Ne.symm ne⟩) fun p h' tk hp out s1 hT hsz kp => ?_
    have ep : p = u := by
      have e : us[i]? = some p := by simpa using hp
      rw [gu] at e
      exact (Option.some.inj e).symm
    subst ep
    refine ⟨_, rfl, wpAny_letOwnedTupleGo_enum (s := { s with heap := h', toks := tk + 1 }) out fun g ee sb => ?_⟩
    have gT : g.get? s.heap.objs.size = some { cls := .type "tuple", data := .seq #[.int i tk, p] } := (sb.2 _ (Nat.ne_of_gt hel)).trans hT
    have fresh : ObjOk X.prog X.w (upd H s.heap.objs.size (.tup [.int (i : Nat), x])) g s.heap.objs.size (.tup [.int (i : Nat), x]) :=
      ⟨by show 2 ≤ sizeLine; decide, [.int i tk, p], .cons ⟨_, rfl⟩ (.cons eu .nil), ⟨_, gT, rfl, _, rfl⟩⟩
    have J := I.turnedNew (t' := tk + 1) (ch := [e, it]) (fun d o hd q => (sb.2 d (fun w' => hd (by simp [w']))).trans (kp d o (fun w' => hd (by simp [w'])) (fun w' => hd (by simp [w'])) q)) hf (Nat.le_refl _) fresh
    refine ⟨.ref s.heap.objs.size, _, J, rfl, ⟨_, x, rfl, I.hok.fresh (Nat.le_refl _), rfl, fun l hl => by rw [sq_inj I hl qx]; exact gx⟩, ⟨⟨p, ?_⟩, sqI_at (fun o q => (sb.2 it (Ne.symm hei)).trans q) s1.1⟩, fun d hd => ?_⟩
    · have e1 : ((i + 1 : Nat) : Int) = (i : Int) + 1 := by omega
      rw [e1]; exact ee
    · have hlt : d < s.heap.objs.size := by
        have q : d = e ∨ d = it := by simpa using hd
        rcases q with q | q
        · subst q; exact hel
        · subst q; exact sqI_lt h1
      rw [upd_ne (Nat.ne_of_lt hlt)]
      exact (hf d hd).1
  done := by
    intro X e1 e2 e3 calm i pins s σ H E I hf st hg
    subst e1 e2 e3
    obtain ⟨⟨old, he⟩, h1⟩ := st
    obtain ⟨xs, qx, hi⟩ := hg
    obtain ⟨us, ru, ou⟩ := sq_obj I qx
    have l1 := ru.length
    have h1' : SqI b s.heap it a us.toArray.size := by
      rw [List.size_toArray, ← l1, ← hi]
      exact h1
    exact wpAny_pyNext_enum_endD (sq_draws (prog := X.prog) (w := X.w) (A := X.A.in1) (I.ok.hd calm) b it a na us.toArray) he ⟨h1', ou⟩ fun h' kp => ⟨rfl, I.turnedL (t' := s.toks) (ch := [e, it]) (fun d o hd q => kp d o (fun w' => hd (by simp [w'])) q) hf⟩
  self := fun A i s Q E st h => by
    obtain ⟨⟨old, he⟩, _⟩ := st
    exact wpAny_pyIter_enum he h
set_option maxHeartbeats 8000000 in
theorem meets_enum1 {v : Value} {o : Obj} {H : Heap → Prop} (B : Begins v o H) :
    Meets (Builtin.«enumerate.__new__» ⟨[.type "enumerate", v], []⟩) (fun _ R s => H s.heap ∧
      R (.ok (.ret (.ref (s.heap.push o).objs.size))) { s with heap := (s.heap.push o).push { cls := .type "enumerate", data := .fields #[.none, .bool false, .ref s.heap.objs.size, rawInt 0, .none, .none] } }) :=
  .of_wp fun prog w A R s h => by
    obtain ⟨hp, gg, dd, tk, os⟩ := s
    obtain ⟨h1, h⟩ := h
    have sub := sub_enumerate
    have it1 : ∀ {A' : Around} {E : Value → Shared → Prop} {Q : Value → Shared → Prop}, Q (.ref hp.objs.size) ⟨hp.push o, gg, dd, tk, os⟩ → wpAny (model prog w) A' (pyIter v) Q E ⟨hp, gg, dd, tk, os⟩ :=
      fun q => B.iter prog w _ _ ⟨hp, gg, dd, tk, os⟩ _ h1 q
    wp_walk using it1
    refine wpAny_stack_any fun st => wpAny_pure ?_
    split
    · rename_i c _ _ _ _ _
      cases (c == Value.type "enumerate")
      · wp_walk using it1
        exact ⟨_, rfl, h⟩
      · wp_walk using it1
        exact ⟨_, rfl, h⟩
    · wp_walk using it1
      exact ⟨_, rfl, h⟩
theorem enum1_begins {prog : Program} {w : World} {A : Around} {E : Value → Shared → Prop} {s : Shared} {v : Value} {o : Obj} {H : Heap → Prop} {Q : Value → Shared → Prop} (B : Begins v o H) (h1 : H s.heap)
    (h : ∀ h', IsEnum h' (s.heap.objs.size + 1) s.heap.objs.size 0 .none → h'.get? s.heap.objs.size = some o → (∀ b x, s.heap.get? b = some x → h'.get? b = some x) → Q (.ref (s.heap.objs.size + 1)) { s with heap := h' }) :
    wpAny (model prog w) A (call (.type "enumerate") [v]) Q E s := by
  refine callType_new F.called_enumerate (by decide) (F.typeCall_enumerate_1 _) (F.newCall_enumerate_1 _) (fun obj => F.args_object_init_2 obj _) F.entry_enumerate_new (meets_enum1 B) ⟨h1, ?_⟩
  have sz : (s.heap.push o).objs.size = s.heap.objs.size + 1 := Heap.size_push ..
  have hen : IsEnum ((s.heap.push o).push { cls := .type "enumerate", data := .fields #[.none, .bool false, .ref s.heap.objs.size, rawInt 0, .none, .none] }) (s.heap.objs.size + 1) s.heap.objs.size 0 .none := by
    have q := Heap.get?_push_size (s.heap.push o) (o := { cls := .type "enumerate", data := .fields #[.none, .bool false, .ref s.heap.objs.size, rawInt 0, .none, .none] }) rfl
    rw [sz] at q
    exact q
  show _ ∧ _
  rw [sz]
  exact ⟨⟨_, hen, rfl⟩, h _ hen (Heap.get?_push_of_some _ (Heap.get?_push_size _ B.free)) fun b x q => Heap.get?_push_of_some _ (Heap.get?_push_of_some _ q)⟩
def iEnumM (K : PySem.W.Frag) (b : Bool) (ta : TA) : TI := fun σ H R => ta σ H fun vs H1 => ∃ a xs, vs = [.ref a] ∧ Sq K b H1 a xs ∧ R (IteM K b a) H1
theorem pi_enumM (b : Bool) {X : Cx} {e : Expr} {ta : TA} {p pos tpos : Pos} {elts : List Expr} {kk : Nat} (hg : Gl X "enumerate") (hm : X.mg "enumerate" = none) (ha : PA X [e] ta) (hs : starEach [e] X.env = [(false, eval e X.env)] := by rfl) :
    PI X (.Tuple elts kk tpos) (.Call (.Name "enumerate" p) [e] [] pos) (iEnumM X.K b ta) := by
  refine ⟨fun pins s σ H R I h => ?_⟩
  refine Call_ (ld_blt I hg hm boot_enumerate (PyProof.Rows.callWith_type1 (thn (ha.run pos pins s σ H _ I h) fun us s1 ⟨vs, H1, I1, r1, q1⟩ => ?_) hs rfl))
  obtain ⟨a, xs, ex, qx, q⟩ := q1
  subst ex
  cases r1 with
  | cons r rr =>
    cases rr
    cases r
    obtain ⟨us, ru, ou⟩ := sq_obj I1 qx
    have la := sqO_lt ou
    refine enum1_begins (sq_begins b a us.toArray) ou fun h' hen g1 kp => wpAny_pyIter_enum hen ?_
    have I2 : Inv X pins σ H1 { s1 with heap := h' } := I1.kept (t' := s1.toks) kp
    refine ⟨s1.heap.objs.size + 1, [s1.heap.objs.size + 1, s1.heap.objs.size], _, _, H1, rfl, I2, turn_enumM (e := s1.heap.objs.size + 1) (it := s1.heap.objs.size) (Nat.ne_of_lt la) (Nat.ne_of_lt (Nat.lt_succ_of_lt la)) (Nat.succ_ne_self _), ⟨⟨.none, hen⟩, sqI_new g1⟩, fun d hd => ?_, q⟩
    have e' : d = s1.heap.objs.size + 1 ∨ d = s1.heap.objs.size := by simpa using hd
    have hle : s1.heap.objs.size ≤ d := by
      rcases e' with z | z
      · rw [z]; exact Nat.le_add_right _ _
      · rw [z]; exact Nat.le_refl _
    exact I1.fpOk hle (I1.hok.fresh hle)
theorem walk_enumM {K : PySem.W.Frag} {b : Bool} {a : Addr} {xs : List V} : Walk (IteM K b a) xs.length (fun H => Sq K b H a xs) (YPair (fun i => some (.int (i : Nat))) (fun i => xs[i]?)) :=
  ⟨fun i _ hi q => ⟨xs, xs[i], q, List.getElem?_eq_getElem hi⟩, fun _ q => ⟨xs, q, rfl⟩, fun i _ _ _ _ q ⟨T, x, e, n, u, h1⟩ => ⟨T, .int (i : Nat), x, e, n, u, rfl, h1 xs q⟩⟩
def rGetL (K : PySem.W.Frag) : V → V → Hp → VK → Prop := fun x y H Q => ∃ p xs i v, x = .ref p ∧ y = .int i ∧ SqL K H p xs ∧ 0 ≤ i ∧ i < 2 ^ 62 ∧ xs[i.toNat]? = some v ∧ Q v H
theorem get_list {X : Cx} : PGet X (rGetL X.K) := by
  intro pins s σ H o i ov iv Q I ro ri h
  obtain ⟨p, xs, k, v, rfl, rfl, hq, h0, h1, hv, q⟩ := h
  cases ro
  obtain ⟨t, rfl⟩ := ri
  obtain ⟨its, r, pl, hz⟩ := I.list hq
  obtain ⟨u, gu, eu⟩ := r.get hv
  exact PySem.wpAny_getItem_list pl.isList h0 (by omega) (by simpa using gu) ⟨v, H, I, eu, q⟩
def rIsA : R2 := fun x y H Q => ∃ b : Bool, y = .bl b ∧ Q (.bl (decide (x = .bl b))) H
def rNotA : R2 := fun x y H Q => ∃ b : Bool, y = .bl b ∧ Q (.bl (!decide (x = .bl b))) H
theorem plain_bl {x : V} {v : Value} {b : Bool} (r : RelV x v) : plainIs v (.bool b) = true := by
  cases x with
  | int i => obtain ⟨t, rfl⟩ := (show ∃ t, v = Value.int i t from r); rfl
  | str i => obtain ⟨t, rfl⟩ := (show ∃ t, v = Value.str i t from r); rfl
  | byt i => obtain ⟨t, rfl⟩ := (show ∃ t, v = Value.bytes i t from r); rfl
  | flt i => obtain ⟨t, rfl⟩ := (show ∃ t, v = Value.float i t from r); rfl
  | non => cases (show v = Value.none from r); rfl
  | bl c => cases (show v = Value.bool c from r); rfl
  | ref c => cases (show v = Value.ref c from r); rfl
  | ty c => cases (show v = Value.type c from r); rfl
theorem beq_bl {x : V} {v : Value} {b : Bool} (r : RelV x v) : (v == Value.bool b) = decide (x = .bl b) := by
  by_cases e : x = .bl b
  · subst e
    cases (show v = Value.bool b from r)
    rw [decide_eq_true rfl, beq_self_eq_true]
  · rw [decide_eq_false e]
    refine beq_eq_false_iff_ne.mpr fun z => e ?_
    subst z
    exact r.inj (show RelV (.bl b) (Value.bool b) from rfl)
theorem op_isA {X : Cx} : OpR X (compareOp .Is) rIsA := by
  intro pins s σ H x y v u Q I rx ry h
  obtain ⟨b, rfl, q⟩ := h
  cases (show u = Value.bool b from ry)
  exact wpAny_is_plain (plain_bl rx) ⟨.bl _, H, I, congrArg Value.bool (beq_bl rx), q⟩
theorem op_notA {X : Cx} : OpR X (compareOp .IsNot) rNotA := by
  intro pins s σ H x y v u Q I rx ry h
  obtain ⟨b, rfl, q⟩ := h
  cases (show u = Value.bool b from ry)
  exact wpAny_isNot_plain (plain_bl rx) ⟨.bl _, H, I, congrArg (fun z => Value.bool (!z)) (beq_bl rx), q⟩
end Z
namespace Z
open PySem L2
abbrev Is (c : Cell) : Cell → Prop := fun c' => c' = c
/-- an int of which P holds -/
def isI (K : PySem.W.Frag) (P : Int → Prop) : Cell → Prop := fun c => ∃ n, c = cI K n ∧ P n
/-- data of which P holds -/
def isD (K : PySem.W.Frag) (P : PyData → Prop) : Cell → Prop := fun c => ∃ d, c = cD K d ∧ P d
/-- a new list of one's own -/
def isO (K : PySem.W.Frag) (ds : List PyData) : Cell → Prop := fun c => ∃ l, c = cOwn K l ds
/-- what is read as d now: data, or a list of one's own that stands in a slot -/
def Rdb (K : PySem.W.Frag) (cs : List Cell) (d : PyData) : Cell → Prop := fun c => c = cD K d ∨ ∃ (l : Addr) (ds : List PyData) (i : Nat), c = cV (.ref l) ∧ cs[i]? = some (cOwn K l ds) ∧ d = .list ds
def EvX (te : TE) (cs : List Cell) (R : Cell → List Cell → Prop) : Prop := ∀ (B0 F0 : Hp) (ts : List Cell) (us σ : List (Option V)) (H : Hp), us.length = ts.length → Sim B0 F0 (ts ++ cs) (us ++ σ) H →
  ∀ Q : VK, (∀ c v cs' H', R c cs' → Sim B0 F0 (c :: (ts ++ cs')) (some v :: (us ++ σ)) H' → Q v H') → te σ H Q
def Ev (te : TE) (cs : List Cell) (R : Cell → Prop) : Prop := ∀ (B0 F0 : Hp) (ts : List Cell) (us σ : List (Option V)) (H : Hp), us.length = ts.length → Sim B0 F0 (ts ++ cs) (us ++ σ) H →
  ∀ Q : VK, (∀ c v H', R c → Sim B0 F0 (c :: (ts ++ cs)) (some v :: (us ++ σ)) H' → Q v H') → te σ H Q
def EvT (tt : TT) (cs : List Cell) (R : Bool → Prop) : Prop := ∀ (B0 F0 : Hp) (ts : List Cell) (us σ : List (Option V)) (H : Hp), us.length = ts.length → Sim B0 F0 (ts ++ cs) (us ++ σ) H →
  ∀ Q : Bool → Hp → Prop, (∀ b H', R b → Sim B0 F0 (ts ++ cs) (us ++ σ) H' → Q b H') → tt σ H Q
def EvA (ta : TA) (cs : List Cell) (R : List Cell → Prop) : Prop := ∀ (B0 F0 : Hp) (ts : List Cell) (us σ : List (Option V)) (H : Hp), us.length = ts.length → Sim B0 F0 (ts ++ cs) (us ++ σ) H →
  ∀ Q : List V → Hp → Prop, (∀ as vs H', R as → vs.length = as.length → Sim B0 F0 (as ++ (ts ++ cs)) (vs.map some ++ (us ++ σ)) H' → Q vs H') → ta σ H Q
section
variable {K : PySem.W.Frag} {cs : List Cell} {te ta tb tc : TE} {R Ra Rb : Cell → Prop} {d e : PyData} {tt t u : TT}
theorem Ev.imp (h : Ev te cs Ra) (k : ∀ c, Ra c → R c) : Ev te cs R := fun B0 F0 ts us σ H hl S Q q => h B0 F0 ts us σ H hl S Q fun c v H' r => q c v H' (k c r)
theorem Ev.x (h : Ev te cs R) : EvX te cs (fun c cs' => R c ∧ cs' = cs) := fun B0 F0 ts us σ H hl S Q q => h B0 F0 ts us σ H hl S Q fun c v H' r => q c v cs H' ⟨r, rfl⟩
theorem EvT.imp {P P' : Bool → Prop} (h : EvT tt cs P) (k : ∀ b, P b → P' b) : EvT tt cs P' := fun B0 F0 ts us σ H hl S Q q => h B0 F0 ts us σ H hl S Q fun b H' r => q b H' (k b r)
theorem Ev.rd (h : Ev te cs (Is (cD K d))) : Ev te cs (Rdb K cs d) := h.imp fun _ r => .inl r
theorem Ev.isd (h : Ev te cs (Is (cD K d))) : Ev te cs (isD K (fun x => x = d)) := h.imp fun _ r => ⟨d, r, rfl⟩
theorem Ev.i {n : Int} (h : Ev te cs (Is (cI K n))) : Ev te cs (isI K (fun x => x = n)) := h.imp fun _ r => ⟨n, r, rfl⟩
theorem Ev.eq {d' : PyData} (h : Ev te cs (Is (cD K d))) (q : d = d') : Ev te cs (Is (cD K d')) := q ▸ h
/-- a list of one's own becomes data -/
theorem Ev.freeze {ds : List PyData} (h : Ev te cs (isO K ds)) : Ev te cs (Is (cD K (.list ds))) := fun B0 F0 ts us σ H hl S Q q => h B0 F0 ts us σ H hl S Q fun c v H' r S' => by
  obtain ⟨l, rfl⟩ := r
  exact q _ v H' rfl S'.freeze
theorem at_ts {α : Type} {ts cs : List α} {i : Nat} {n : Nat} (hn : n = ts.length) : (ts ++ cs)[n + i]? = cs[i]? := by
  subst hn
  rw [List.getElem?_append_right (Nat.le_add_right _ _)]
  congr 1
  omega
theorem ev_var {i : Nat} (hi : cs[i]? = some (cD K d)) : Ev (tVar i) cs (Is (cD K d)) := fun B0 F0 ts us σ H hl S Q q => by
  have hi' : (ts ++ cs)[ts.length + i]? = some (cD K d) := by rw [at_ts rfl]; exact hi
  obtain ⟨w, ew, S'⟩ := S.dup cD_pure hi'
  rw [at_ts hl.symm] at ew
  obtain ⟨B, F, fp, h1, h2, h3, ⟨f1, f2, ef, ⟨_, x, ex, r⟩, r2⟩, h5, h6⟩ := id S'
  subst ex
  exact ⟨x, ew, q _ x H rfl S'⟩
theorem ev_varP {i : Nat} {c : Cell} {x : V} (hi : cs[i]? = some c) (hp : c.Pin x) : Ev (tVar i) cs (Is (cV x)) := fun B0 F0 ts us σ H hl S Q q => by
  have hi' : (ts ++ cs)[ts.length + i]? = some c := by rw [at_ts rfl]; exact hi
  have ew := S.pin hp hi'
  rw [at_ts hl.symm] at ew
  exact ⟨x, ew, q _ x H rfl S.pushV⟩
theorem ev_varO {i : Nat} {l : Addr} {ds : List PyData} (hi : cs[i]? = some (cOwn K l ds)) : Ev (tVar i) cs (Is (cV (.ref l))) := ev_varP hi cOwn_pin
theorem ev_rdO {i : Nat} {l : Addr} {ds : List PyData} (hi : cs[i]? = some (cOwn K l ds)) : Ev (tVar i) cs (Rdb K cs (.list ds)) := (ev_varO hi).imp fun _ r => .inr ⟨l, ds, i, r, hi, rfl⟩
theorem ev_rdD {i : Nat} (hi : cs[i]? = some (cD K d)) : Ev (tVar i) cs (Rdb K cs d) := (ev_var hi).rd
theorem ev_v {x : V} : Ev (tC x) cs (Is (cV x)) := fun B0 F0 ts us σ H hl S Q q => q _ x H rfl S.pushV
theorem ev_int {n : Int} : Ev (tC (.int n)) cs (Is (cI K n)) := fun B0 F0 ts us σ H hl S Q q => q _ _ H rfl (S.pushD fun _ => .int n)
theorem ev_bl {b : Bool} : Ev (tC (.bl b)) cs (Is (cB K b)) := fun B0 F0 ts us σ H hl S Q q => q _ _ H rfl (S.pushD fun _ => .bl b)
theorem ev_non : Ev (tC .non) cs (Is (cN K)) := fun B0 F0 ts us σ H hl S Q q => q _ _ H rfl (S.pushD fun _ => .non)
theorem ev_str {x : Str} : Ev (tC (.str x)) cs (Is (cD K (.str x))) := fun B0 F0 ts us σ H hl S Q q => q _ _ H rfl (S.pushD fun _ => .str x)
theorem Sim.rd {B0 F0 H : Hp} {ts : List Cell} {us σ : List (Option V)} {c : Cell} {v : V} (S : Sim B0 F0 (c :: (ts ++ cs)) (some v :: (us ++ σ)) H) (hl : us.length = ts.length) (r : Rdb K cs d c) : Dp K H v d := by
  rcases r with r | ⟨l, ds, i, r, hi, e⟩
  · subst r
    exact S.dp
  · subst r e
    have hi' : (cV (.ref l) :: (ts ++ cs))[ts.length + 1 + i]? = some (cOwn K l ds) := by
      rw [show ts.length + 1 + i = (ts.length + i) + 1 by omega, List.getElem?_cons_succ, at_ts rfl]
      exact hi
    obtain ⟨_, vs, q1, q2⟩ := S.ownAt hi'
    have ev := S.pin (i := 0) (cV_pin (x := V.ref l)) rfl
    cases (Option.some.inj (Option.some.inj ev))
    exact .lst (SqL.of q1) q2
theorem dp_int {H : Hp} {v : V} {n : Int} (h : Dp K H v (.int n)) : v = .int n := by cases h; rfl
theorem dp_bl {H : Hp} {v : V} {b : Bool} (h : Dp K H v (.bool b)) : v = .bl b := by cases h; rfl
theorem dp_non {H : Hp} {v : V} (h : Dp K H v .none) : v = .non := by cases h; rfl
theorem dp_str {H : Hp} {v : V} {x : Str} (h : Dp K H v (.str x)) : v = .str x := by cases h; rfl
theorem dp_lst {H : Hp} {v : V} {ds : List PyData} (h : Dp K H v (.list ds)) : ∃ a xs, v = .ref a ∧ SqL K H a xs ∧ DpAll K H xs ds := by cases h with | lst s a => exact ⟨_, _, rfl, s, a⟩
theorem dp_tup {H : Hp} {v : V} {ds : List PyData} (h : Dp K H v (.tuple ds)) : ∃ a xs, v = .ref a ∧ SqT K H a xs ∧ DpAll K H xs ds := by cases h with | tup s a => exact ⟨_, _, rfl, s, a⟩
/-- the general rule: both stand in front -/
theorem ev_op2 {r : R2} (ha : Ev ta cs Ra) (hb : Ev tb cs Rb) (hr : ∀ c1 c2, Ra c1 → Rb c2 → ∀ (B0 F0 : Hp) (ts : List Cell) (us σ : List (Option V)) (H : Hp) (x y : V), us.length = ts.length → Sim B0 F0 (c2 :: c1 :: (ts ++ cs)) (some y :: some x :: (us ++ σ)) H →
    ∀ Q : VK, (∀ c v H', R c → Sim B0 F0 (c :: (ts ++ cs)) (some v :: (us ++ σ)) H' → Q v H') → r x y H Q) : Ev (tOp r ta tb) cs R := fun B0 F0 ts us σ H hl S Q q =>
  ha B0 F0 ts us σ H hl S _ fun c1 x H1 r1 S1 => hb B0 F0 (c1 :: ts) (some x :: us) σ H1 (congrArg (· + 1) hl) S1 _ fun c2 y H2 r2 S2 => hr c1 c2 r1 r2 B0 F0 ts us σ H2 x y hl S2 Q q
/-- two data in, scalar data out, the heap as it is -/
theorem ev_opD {r : R2} {P1 P2 : PyData → Prop} (ha : Ev ta cs (isD K P1)) (hb : Ev tb cs (isD K P2)) (hr : ∀ d1 d2, P1 d1 → P2 d2 → ∀ (H : Hp) (x y : V), Dp K H x d1 → Dp K H y d2 → ∀ Q : VK, (∀ d v, R (cD K d) → (∀ B, Dp K B v d) → Q v H) → r x y H Q) :
    Ev (tOp r ta tb) cs R := ev_op2 ha hb fun c1 c2 ⟨d1, e1, p1⟩ ⟨d2, e2, p2⟩ B0 F0 ts us σ H x y hl S Q q => by
  subst e1 e2
  exact hr d1 d2 p1 p2 H x y (S.swap.dp) S.dp Q fun d v rc hd => q _ v H rc (S.pop.pop.pushD hd)
theorem Ev.toD {P : Int → Prop} (h : Ev te cs (isI K P)) : Ev te cs (isD K (fun d => ∃ n, d = .int n ∧ P n)) := h.imp fun c ⟨n, e, p⟩ => ⟨_, e, n, rfl, p⟩
theorem ev_int2N {C : Int → Int → Prop} {g : Int → Int → Int} {P1 P2 P : Int → Prop} (ha : Ev ta cs (isI K P1)) (hb : Ev tb cs (isI K P2)) (hc : ∀ i j, P1 i → P2 j → C i j) (hp : ∀ i j, P1 i → P2 j → P (g i j)) :
    Ev (tOp (rI C fun i j => .int (g i j)) ta tb) cs (isI K P) := ev_opD ha.toD hb.toD fun d1 d2 ⟨i, e1, p1⟩ ⟨j, e2, p2⟩ H x y h1 h2 Q q => by
  subst e1 e2
  exact ⟨i, j, dp_int h1, dp_int h2, hc i j p1 p2, q _ _ ⟨_, rfl, hp i j p1 p2⟩ fun _ => .int _⟩
theorem ev_int20N {g : Int → Int → Int} {P1 P2 P : Int → Prop} (ha : Ev ta cs (isI K P1)) (hb : Ev tb cs (isI K P2)) (hp : ∀ i j, P1 i → P2 j → P (g i j)) :
    Ev (tOp (rI0 fun i j => .int (g i j)) ta tb) cs (isI K P) := ev_opD ha.toD hb.toD fun d1 d2 ⟨i, e1, p1⟩ ⟨j, e2, p2⟩ H x y h1 h2 Q q => by
  subst e1 e2
  exact ⟨i, j, dp_int h1, dp_int h2, q _ _ ⟨_, rfl, hp i j p1 p2⟩ fun _ => .int _⟩
theorem isI_is {n : Int} {c : Cell} (h : isI K (fun x => x = n) c) : c = cI K n := by
  obtain ⟨m, e, rfl⟩ := h
  exact e
theorem ev_int2 {C : Int → Int → Prop} {g : Int → Int → Int} {a b : Int} (ha : Ev ta cs (Is (cI K a))) (hb : Ev tb cs (Is (cI K b))) (hc : C a b) : Ev (tOp (rI C fun i j => .int (g i j)) ta tb) cs (Is (cI K (g a b))) :=
  (ev_int2N (P := fun x => x = g a b) ha.i hb.i (fun i j e1 e2 => by subst e1 e2; exact hc) (fun i j e1 e2 => by subst e1 e2; rfl)).imp fun _ => isI_is
theorem ev_int20 {g : Int → Int → Int} {a b : Int} (ha : Ev ta cs (Is (cI K a))) (hb : Ev tb cs (Is (cI K b))) : Ev (tOp (rI0 fun i j => .int (g i j)) ta tb) cs (Is (cI K (g a b))) :=
  (ev_int20N (P := fun x => x = g a b) ha.i hb.i (fun i j e1 e2 => by subst e1 e2; rfl)).imp fun _ => isI_is
/-- comparing two ints -/
theorem ev_cmp2N {g : Int → Int → Bool} {P1 P2 : Int → Prop} {P : Bool → Prop} (ha : Ev ta cs (isI K P1)) (hb : Ev tb cs (isI K P2)) (hp : ∀ i j, P1 i → P2 j → P (g i j)) :
    Ev (tOp (rI0 fun i j => .bl (g i j)) ta tb) cs (fun c => ∃ b, c = cB K b ∧ P b) := ev_opD ha.toD hb.toD fun d1 d2 ⟨i, e1, p1⟩ ⟨j, e2, p2⟩ H x y h1 h2 Q q => by
  subst e1 e2
  exact ⟨i, j, dp_int h1, dp_int h2, q _ _ ⟨_, rfl, hp i j p1 p2⟩ fun _ => .bl _⟩
theorem ev_cmp2 {g : Int → Int → Bool} {a b : Int} (ha : Ev ta cs (Is (cI K a))) (hb : Ev tb cs (Is (cI K b))) : Ev (tOp (rI0 fun i j => .bl (g i j)) ta tb) cs (Is (cB K (g a b))) :=
  (ev_cmp2N (P := fun x => x = g a b) ha.i hb.i (fun i j e1 e2 => by subst e1 e2; rfl)).imp fun c ⟨b, e, eb⟩ => by subst eb; exact e
theorem ev_chain {g g' : Int → Int → Bool} {a b c : Int} (ha : Ev ta cs (Is (cI K a))) (hb : Ev tb cs (Is (cI K b))) (hc : Ev tc cs (Is (cI K c))) :
    Ev (tChain (rI0 fun i j => .bl (g i j)) (rI0 fun i j => .bl (g' i j)) ta tb tc) cs (Is (cB K (g a b && g' b c))) := fun B0 F0 ts us σ H hl S Q q =>
  ha B0 F0 ts us σ H hl S _ fun c1 x H1 r1 S1 => hb B0 F0 (c1 :: ts) (some x :: us) σ H1 (congrArg (· + 1) hl) S1 _ fun c2 y H2 r2 S2 => by
    subst r1 r2
    have ex := dp_int S2.swap.dp
    have ey := dp_int S2.dp
    refine ⟨a, b, ex, ey, g a b, rfl, ?_⟩
    cases hg : g a b with
    | true =>
      show tc σ H2 _
      refine hc B0 F0 (cI K b :: ts) (some y :: us) σ H2 (congrArg (· + 1) hl) S2.swap.pop _ fun c3 z H3 r3 S3 => ?_
      subst r3
      have ez := dp_int S3.dp
      exact ⟨b, c, ey, ez, q _ _ _ rfl (S3.pop.pop.pushD fun _ => by rw [hg, Bool.true_and]; exact .bl _)⟩
    | false =>
      show Q _ H2
      exact q _ _ _ rfl (S2.pop.pop.pushD fun _ => by rw [hg]; exact .bl _)
theorem ev_andV {a b : Bool} (ha : Ev ta cs (Is (cB K a))) (hb : a = true → Ev tb cs (Is (cB K b))) : Ev (tAndV ta tb) cs (Is (cB K (a && b))) := fun B0 F0 ts us σ H hl S Q q =>
  ha B0 F0 ts us σ H hl S _ fun c1 x H1 r1 S1 => by
    subst r1
    refine ⟨a, dp_bl S1.dp, ?_⟩
    cases a with
    | true => exact hb rfl B0 F0 ts us σ H1 hl S1.pop Q fun c v H' r S' => q c v H' (by rw [Bool.true_and]; exact r) S'
    | false => exact q _ _ _ rfl (S1.pop.pushD fun _ => .bl _)
theorem ev_orV {a b : Bool} (ha : Ev ta cs (Is (cB K a))) (hb : a = false → Ev tb cs (Is (cB K b))) : Ev (tOrV ta tb) cs (Is (cB K (a || b))) := fun B0 F0 ts us σ H hl S Q q =>
  ha B0 F0 ts us σ H hl S _ fun c1 x H1 r1 S1 => by
    subst r1
    refine ⟨a, dp_bl S1.dp, ?_⟩
    cases a with
    | false => exact hb rfl B0 F0 ts us σ H1 hl S1.pop Q fun c v H' r S' => q c v H' (by rw [Bool.false_or]; exact r) S'
    | true => exact q _ _ _ rfl (S1.pop.pushD fun _ => .bl _)
theorem ev_notV {a : Bool} (ha : Ev ta cs (Is (cB K a))) : Ev (tNotV ta) cs (Is (cB K (!a))) := fun B0 F0 ts us σ H hl S Q q =>
  ha B0 F0 ts us σ H hl S _ fun c1 x H1 r1 S1 => by
    subst r1
    exact ⟨a, dp_bl S1.dp, q _ _ _ rfl (S1.pop.pushD fun _ => .bl _)⟩
theorem ev_neg {a : Int} (ha : Ev ta cs (Is (cI K a))) : Ev (tUn (rU fun i => .int (-i)) ta) cs (Is (cI K (-a))) := fun B0 F0 ts us σ H hl S Q q =>
  ha B0 F0 ts us σ H hl S _ fun c1 x H1 r1 S1 => by
    subst r1
    exact ⟨a, dp_int S1.dp, q _ _ _ rfl (S1.pop.pushD fun _ => .int _)⟩
/-- == and != of what is read -/
theorem ev_eq (ha : Ev ta cs (Rdb K cs d)) (hb : Ev tb cs (Rdb K cs e)) (sd : SeqAt.shaped d = true) (se : SeqAt.shaped e = true) : Ev (tOp (rEqD K) ta tb) cs (Is (cB K (PyData.eqv d e))) :=
  ev_op2 ha hb fun c1 c2 r1 r2 B0 F0 ts us σ H x y hl S Q q => by
    have h1 : Dp K H x d := S.pop.rd hl r1
    have h2 : Dp K H y e := (show Sim B0 F0 (c2 :: ((c1 :: ts) ++ cs)) (some y :: ((some x :: us) ++ σ)) H from S).rd (congrArg (· + 1) hl) r2
    exact ⟨d, e, h1, h2, sd, se, q _ _ _ rfl (S.pop.pop.pushD fun _ => .bl _)⟩
theorem ev_ne (ha : Ev ta cs (Rdb K cs d)) (hb : Ev tb cs (Rdb K cs e)) (sd : SeqAt.shaped d = true) (se : SeqAt.shaped e = true) : Ev (tOp (rNeD K) ta tb) cs (Is (cB K (!PyData.eqv d e))) :=
  ev_op2 ha hb fun c1 c2 r1 r2 B0 F0 ts us σ H x y hl S Q q => by
    have h1 : Dp K H x d := S.pop.rd hl r1
    have h2 : Dp K H y e := (show Sim B0 F0 (c2 :: ((c1 :: ts) ++ cs)) (some y :: ((some x :: us) ++ σ)) H from S).rd (congrArg (· + 1) hl) r2
    exact ⟨d, e, h1, h2, sd, se, q _ _ _ rfl (S.pop.pop.pushD fun _ => .bl _)⟩
end
end Z
namespace Z
open PySem PySem.Spec PyProof.Rows L2 HT
theorem adjust_back (n : Nat) : Builtin.Slice.sliceAdjust none none (-1) (n : Int) = ((n : Int) - 1, -1) := rfl
theorem places_back (n : Nat) : Builtin.Slice.slicePlaces ((n : Int) - 1) (-1) (-1) = n := by
  unfold Builtin.Slice.slicePlaces
  rw [if_neg (by omega)]
  by_cases h : n = 0
  · subst h
    rfl
  · rw [if_pos (by omega)]
    have e : ((n : Int) - 1 - -1 - 1) / (- -1) + 1 = n := by
      rw [show (- -1 : Int) = 1 from rfl, Int.ediv_one]
      omega
    rw [e]
    exact Int.toNat_natCast n
theorem fm_congr {α β : Type} {f g : α → Option β} : ∀ {l : List α}, (∀ k ∈ l, f k = g k) → l.filterMap f = l.filterMap g
  | [], _ => rfl
  | a :: l, h => by
    rw [List.filterMap_cons, List.filterMap_cons, h a (List.mem_cons_self ..), fm_congr fun k hk => h k (List.mem_cons_of_mem _ hk)]
theorem pick_back (l : List Value) : ((List.range l.length).filterMap fun (k : Nat) => l.toArray[((l.length : Int) - 1 + (k : Int) * (-1)).toNat]?) = l.reverse := by
  refine List.ext_getElem? fun i => ?_
  have e : (List.range l.length).filterMap (fun (k : Nat) => l.toArray[((l.length : Int) - 1 + (k : Int) * (-1)).toNat]?) = (List.range l.length).map (fun k => (l.reverse[k]?).getD .none) := by
    rw [← List.filterMap_eq_map]
    refine fm_congr fun k hk => ?_
    have hk' : k < l.length := List.mem_range.mp hk
    have q : ((l.length : Int) - 1 + (k : Int) * (-1)).toNat = l.length - 1 - k := by omega
    rw [q]
    show _ = some ((l.reverse[k]?).getD .none)
    rw [List.getElem?_reverse hk']
    have z : l.length - 1 - k < l.length := by omega
    simp [z]
  rw [e]
  by_cases hi : i < l.length
  · rw [List.getElem?_map, List.getElem?_range hi]
    show some ((l.reverse[i]?).getD .none) = l.reverse[i]?
    rw [List.getElem?_eq_getElem (by rw [List.length_reverse]; exact hi)]
    rfl
  · rw [List.getElem?_eq_none (by rw [List.length_map, List.length_range]; omega), List.getElem?_eq_none (by rw [List.length_reverse]; omega)]
section
variable {prog : Program} {w : World} {A : Around} {E : Value → Shared → Prop} {s : Shared}
theorem sliceApplied_back {sl : Addr} {vl vu vs : Value} {n : Nat} {Q : Int × Int × Nat → Shared → Prop} (hs : s.heap.IsSliceOf sl vl vu vs) (pl : IsPart vl none) (pu : IsPart vu none) (ps : IsPart vs (some (-1)))
    (h : Q ((n : Int) - 1, -1, n) s) : wpAny (model prog w) A (Builtin.Slice.sliceApplied (.ref sl) (pure (n : Int))) Q E s := by
  obtain ⟨os, hos, hcs, hds⟩ := id hs
  unfold Builtin.Slice.sliceApplied Builtin.Slice.sliceFields
  refine wpAny_bind (wpAny_bind (wpAny_field hos hds (x := vl) rfl ?_))
  refine wpAny_bind (wpAny_field hos hds (x := vu) rfl ?_)
  refine wpAny_bind (wpAny_field hos hds (x := vs) rfl (wpAny_pure ?_))
  refine wpAny_bind (HT.slicePart_ ps ?_)
  show wpAny _ _ (if ((-1 : Int) == 0) = true then _ else _) _ _ s
  rw [if_neg (by decide)]
  refine wpAny_bind (HT.slicePart_ pl ?_)
  refine wpAny_bind (HT.slicePart_ pu ?_)
  refine wpAny_bind (wpAny_pure ?_)
  show wpAny _ _ (match Builtin.Slice.sliceAdjust none none (-1) (n : Int) with | (lo, hi) => pure (lo, (-1 : Int), Builtin.Slice.slicePlaces lo hi (-1))) _ _ s
  rw [adjust_back]
  show wpAny _ _ (pure ((n : Int) - 1, (-1 : Int), Builtin.Slice.slicePlaces ((n : Int) - 1) (-1) (-1))) _ _ s
  rw [places_back]
  exact wpAny_pure h
theorem getItem_tuple_back {t sl : Addr} {l : List Value} {vl vu vs : Value} {Q : Value → Shared → Prop} (ht : IsTup s.heap t l.toArray) (hs : s.heap.IsSliceOf sl vl vu vs) (pl : IsPart vl none) (pu : IsPart vu none) (ps : IsPart vs (some (-1)))
    (h : Q (.ref s.heap.objs.size) { s with heap := s.heap.push { cls := .type "tuple", data := .seq l.reverse.toArray } }) (hsz : l.length ≤ sizeLine) : wpAny (model prog w) A (getItem (.ref t) (.ref sl)) Q E s := by
  have room : sizeOk (.seq l.reverse.toArray) := by
    show l.reverse.toArray.size ≤ sizeLine
    rw [List.size_toArray, List.length_reverse]
    exact hsz
  obtain ⟨os, hos, hcs, hds⟩ := id hs
  have tS : s.TypeIs (.ref sl) "slice" := ⟨os, hos, hcs⟩
  unfold getItem
  try with_reducible refine wpAny_holding ?_
  first | refine wpAny_bind (wpAny_pure ?_) | skip
  refine wpAny_bind (wpAny_sequenceKey ht.typeIs (by decide) ?_)
  refine wpAny_bind (wpAny_callSpecial?_slot (name := Str.ofString "__getitem__") ht.typeIs PyProof.Rows.slot_tuple_getitem (wpAny_call_entry PyProof.Rows.slot_tuple_getitem ht.typeIs entry_tuple_getitem ?_ (args_tuple_getitem _ _)))
  show wpAny _ _ (Builtin.Tuple.tupleItemsOf (.ref t) >>= _) _ _ s
  refine wpAny_bind (tupleItemsOf_ ht (wpAny_bind (wpAny_typeOf tS ?_)))
  rw [if_pos (by decide)]
  refine wpAny_bind (sliceApplied_back hs pl pu ps ?_)
  rw [List.size_toArray]
  have off : ¬ ((((l.length : Int) - 1) == 0 && (-1 : Int) == 1 && l.length == l.length) = true) := by
    intro q
    rw [Bool.and_eq_true, Bool.and_eq_true] at q
    exact absurd q.1.2 (by decide)
  show wpAny _ _ (if (((l.length : Int) - 1) == 0 && (-1 : Int) == 1 && l.length == l.length) = true then _ else _) _ _ s
  rw [if_neg off, pick_back]
  first
    | exact wpAny_bind (m := Builtin.Tuple.tupleExact _) (wpAny_newObj_type (wpAny_pure ⟨_, rfl, wpAny_pure h⟩) room)
    | exact wpAny_bind (m := Builtin.Tuple.tupleExact _) (wpAny_newObj_type (wpAny_bind (wpAny_pure (wpAny_pure ⟨_, rfl, wpAny_pure h⟩))) room)
    | exact wpAny_bind (wpAny_bind (m := Builtin.Tuple.tupleExact _) (wpAny_newObj_type (wpAny_pure (wpAny_pure ⟨_, rfl, wpAny_pure h⟩)) room))
    | exact wpAny_bind (wpAny_bind (m := Builtin.Tuple.tupleExact _) (wpAny_newObj_type (wpAny_pure ⟨_, rfl, wpAny_pure h⟩) room))
end
def tRevT (K : PySem.W.Frag) (te : TE) : TE := fun σ H Q => te σ H fun x H1 => ∃ a xs, x = .ref a ∧ SqT K H1 a xs ∧ ∀ p, H1 p = none → Q (.ref p) (upd H1 p (.tup xs.reverse))
theorem pe_revT {X : Cx} {e : Expr} {te : TE} {k : Nat} {p1 p2 p3 pos : Pos} (he : PE X e te) : PE X (.Subscript e (.Slice none none (some (.UnaryOp .USub (.Constant (.int 1) k p1) p2)) p3) pos) (tRevT X.K te) := by
  refine ⟨fun pins s σ H Q I h => ?_⟩
  refine Subscript_ (thn (he.run pins s σ H _ I h) fun v s1 ⟨x, H1, I1, r1, q1⟩ => ?_)
  obtain ⟨a, xs, rfl, hx, q⟩ := q1
  cases r1
  have part : PO X (some (.UnaryOp .USub (.Constant (.int 1) k p1) p2)) (tPart (tUn (rU fun i => .int (-i)) (tC (.int 1)))) := po_some (pe_un un_neg pe_int)
  refine wpAny_Slice (thn (po_none.run pins s1 σ H1 (fun o H2 => o = none ∧ H2 = H1) I1 ⟨rfl, rfl⟩) fun vl s2 ⟨l, H2, I2, pl, z1, z2⟩ => ?_)
  subst z1 z2
  refine thn (po_none.run pins s2 σ H2 (fun o H3 => o = none ∧ H3 = H2) I2 ⟨rfl, rfl⟩) fun vu s3 ⟨u, H3, I3, pu, z3, z4⟩ => ?_
  subst z3 z4
  refine thn (part.run pins s3 σ H3 (fun o H4 => o = some (-1) ∧ H4 = H3) I3 ⟨1, rfl, -1, rfl, rfl, rfl⟩) fun vs s4 ⟨o, H4, I4, ps, z5, z6⟩ => ?_
  subst z5 z6
  have I5 : Inv X pins σ H4 { s4 with heap := s4.heap.push { cls := .type "slice", data := .fields #[vl, vu, vs] } } := I4.kept (t' := s4.toks) fun b ob q => Heap.get?_push_of_some _ q
  obtain ⟨its, r, ht, hz⟩ := I5.tuple hx
  have hlen := r.length
  show wpAny (model X.prog X.w) X.A (subscriptTail e (.Slice none none (some (.UnaryOp .USub (.Constant (.int 1) k p1) p2)) p3) (.ref a) (.ref s4.heap.objs.size)) (EP X pins σ Q) X.xe { s4 with heap := s4.heap.push { cls := .type "slice", data := .fields #[vl, vu, vs] } }
  refine tail_any (ops := [.ref a, .ref s4.heap.objs.size]) ht.typeIs PyProof.Rows.slot_tuple_getitem.lookup ?_ (by with_unfolding_all rfl)
  refine getItem_tuple_back ht (Heap.IsSliceOf.new _ vl vu vs) pl pu ps ?_ (by rw [← hlen]; exact hz)
  exact ⟨.ref _, _, I5.laid (t' := s4.toks) (o := .tup xs.reverse) (fun b ob q => Heap.get?_push_of_some _ q) (Nat.le_refl _) ⟨by rw [List.length_reverse]; exact hz, _, r.reverse, IsTup.new _ _⟩, rfl, q _ (I5.hok.fresh (Nat.le_refl _))⟩
end Z
namespace Z
open PySem L2
section
variable {K : PySem.W.Frag} {cs : List Cell} {te ta tb tc : TE} {R Ra Rb : Cell → Prop} {d e : PyData} {tt t u : TT} {P P' : Bool → Prop}
theorem et_test {b : Bool} (h : Ev te cs (Is (cB K b))) : EvT (tTest te) cs (fun x => x = b) := fun B0 F0 ts us σ H hl S Q q =>
  h B0 F0 ts us σ H hl S _ fun c x H1 r S1 => by
    subst r
    exact ⟨b, dp_bl S1.dp, q b H1 rfl S1.pop⟩
theorem et_testN (h : Ev te cs (fun c => ∃ b, c = cB K b ∧ P b)) : EvT (tTest te) cs P := fun B0 F0 ts us σ H hl S Q q =>
  h B0 F0 ts us σ H hl S _ fun c x H1 ⟨b, r, p⟩ S1 => by
    subst r
    exact ⟨b, dp_bl S1.dp, q b H1 p S1.pop⟩
theorem et_B {b : Bool} (h : Ev te cs (Is (cB K b))) : EvT (tB te) cs (fun x => x = b) := fun B0 F0 ts us σ H hl S Q q =>
  h B0 F0 ts us σ H hl S _ fun c x H1 r S1 => by
    subst r
    exact ⟨b, dp_bl S1.dp, q b H1 rfl S1.pop⟩
theorem et_and {a b : Bool} (h1 : EvT t cs (fun x => x = a)) (h2 : a = true → EvT u cs (fun x => x = b)) : EvT (tAnd t u) cs (fun x => x = (a && b)) := fun B0 F0 ts us σ H hl S Q q =>
  h1 B0 F0 ts us σ H hl S _ fun c H1 r S1 => by
    subst r
    cases c with
    | true => exact h2 rfl B0 F0 ts us σ H1 hl S1 Q fun c' H' r S' => q c' H' (by rw [r, Bool.true_and]) S'
    | false => exact q false H1 rfl S1
theorem et_or {a b : Bool} (h1 : EvT t cs (fun x => x = a)) (h2 : a = false → EvT u cs (fun x => x = b)) : EvT (tOr t u) cs (fun x => x = (a || b)) := fun B0 F0 ts us σ H hl S Q q =>
  h1 B0 F0 ts us σ H hl S _ fun c H1 r S1 => by
    subst r
    cases c with
    | false => exact h2 rfl B0 F0 ts us σ H1 hl S1 Q fun c' H' r S' => q c' H' (by rw [r, Bool.false_or]) S'
    | true => exact q true H1 rfl S1
theorem et_not {a : Bool} (h1 : EvT t cs (fun x => x = a)) : EvT (tNot t) cs (fun x => x = !a) := fun B0 F0 ts us σ H hl S Q q =>
  h1 B0 F0 ts us σ H hl S _ fun c H1 r S1 => q (!c) H1 (by rw [r]) S1
theorem ev_if {b : Bool} (h : EvT t cs (fun x => x = b)) (h1 : b = true → Ev ta cs R) (h2 : b = false → Ev tb cs R) : Ev (tIf t ta tb) cs R := fun B0 F0 ts us σ H hl S Q q =>
  h B0 F0 ts us σ H hl S _ fun c H1 r S1 => by
    subst r
    cases c with
    | true => exact h1 rfl B0 F0 ts us σ H1 hl S1 Q q
    | false => exact h2 rfl B0 F0 ts us σ H1 hl S1 Q q
theorem ev_ifN (h : EvT t cs P) (h1 : P true → Ev ta cs R) (h2 : P false → Ev tb cs R) : Ev (tIf t ta tb) cs R := fun B0 F0 ts us σ H hl S Q q =>
  h B0 F0 ts us σ H hl S _ fun c H1 r S1 => by
    cases c with
    | true => exact h1 r B0 F0 ts us σ H1 hl S1 Q q
    | false => exact h2 r B0 F0 ts us σ H1 hl S1 Q q
theorem et_is {a b : Bool} (h : EvT t cs (fun x => x = a)) (e : a = b) : EvT t cs (fun x => x = b) := e ▸ h
theorem ea_nil : EvA tNil cs (fun as => as = []) := fun B0 F0 ts us σ H hl S Q q => q [] [] H rfl rfl S
theorem ea_consN {Ra : Cell → Prop} {Rs : List Cell → Prop} {tr : TA} (h : Ev te cs Ra) (hr : EvA tr cs Rs) : EvA (tCons te tr) cs (fun as => ∃ c r, as = c :: r ∧ Ra c ∧ Rs r) := fun B0 F0 ts us σ H hl S Q q =>
  h B0 F0 ts us σ H hl S _ fun c v H1 r1 S1 => hr B0 F0 (c :: ts) (some v :: us) σ H1 (congrArg (· + 1) hl) S1 _ fun as vs H2 r2 hv S2 => by
    refine q (c :: as) (v :: vs) H2 ⟨c, as, rfl, r1, r2⟩ (congrArg (· + 1) hv) ?_
    exact Sim.front (by rw [List.length_map]; exact hv) S2
theorem ea_cons {c : Cell} {as : List Cell} {tr : TA} (h : Ev te cs (Is c)) (hr : EvA tr cs (fun x => x = as)) : EvA (tCons te tr) cs (fun x => x = c :: as) := fun B0 F0 ts us σ H hl S Q q =>
  ea_consN h hr B0 F0 ts us σ H hl S Q fun as' vs H' ⟨c', r, e1, e2, e3⟩ hv S' => q as' vs H' (by rw [e1, e2, e3]) hv S'
theorem EvA.imp {ta : TA} {Ra Rb : List Cell → Prop} (h : EvA ta cs Ra) (k : ∀ as, Ra as → Rb as) : EvA ta cs Rb := fun B0 F0 ts us σ H hl S Q q => h B0 F0 ts us σ H hl S Q fun as vs H' r => q as vs H' (k as r)
theorem holds_ds {B F : Hp} : ∀ {ds : List PyData} {vs : List V} {fp : List Addr}, Holds B F (ds.map (cD K)) (vs.map some) fp → DpAll K B vs ds ∧ fp = []
  | [], [], fp, h => ⟨.nil, h⟩
  | d :: ds, v :: vs, fp, ⟨f1, f2, ef, ⟨e1, x, ex, r⟩, q⟩ => by
    cases ex
    obtain ⟨h1, h2⟩ := holds_ds q
    exact ⟨.cons r h1, by rw [ef, e1, h2]; rfl⟩
  | [], _ :: _, _, h => h.elim
  | _ :: _, [], _, h => h.elim
theorem ds_holds {B F : Hp} : ∀ {ds : List PyData} {vs : List V}, DpAll K B vs ds → Holds B F (ds.map (cD K)) (vs.map some) []
  | _, _, .nil => rfl
  | _, _, .cons h r => ⟨[], [], rfl, ⟨rfl, _, rfl, h⟩, ds_holds r⟩
theorem sz_of {n : Nat} (h : n ≤ 100000) : n ≤ sizeLine := Nat.le_trans h (by decide)
theorem sz_lt {n : Nat} (h : n < 100000) : n < sizeLine := Nat.lt_of_lt_of_le h (by decide)
theorem ev_tup {ta : TA} {ds : List PyData} (h : EvA ta cs (fun as => as = ds.map (cD K))) (hz : ds.length ≤ 100000) : Ev (tTup ta) cs (Is (cD K (.tuple ds))) := fun B0 F0 ts us σ H hl S Q q =>
  h B0 F0 ts us σ H hl S _ fun as vs H1 r hv S1 => by
    subst r
    rw [List.length_map] at hv
    refine ⟨sz_of (by omega), fun p hp => q _ _ _ rfl (S1.new (by rw [List.length_map, List.length_map, hv]) hp fun B F f1 hB hh => .tup (SqT.of upd_same) (dpAll_same (same_upd hB) (holds_ds hh).1))⟩
theorem ev_lst {ta : TA} {ds : List PyData} (h : EvA ta cs (fun as => as = ds.map (cD K))) (hz : ds.length ≤ 100000) : Ev (tLst ta) cs (isO K ds) := fun B0 F0 ts us σ H hl S Q q =>
  h B0 F0 ts us σ H hl S _ fun as vs H1 r hv S1 => by
    subst r
    rw [List.length_map] at hv
    exact ⟨sz_of (by omega), fun p hp => q _ _ _ ⟨p, rfl⟩ (S1.newOwn (by rw [List.length_map, List.length_map, hv]) hp fun B F f1 hh => (holds_ds hh).1)⟩
theorem ev_lstD {ta : TA} {ds : List PyData} (h : EvA ta cs (fun as => as = ds.map (cD K))) (hz : ds.length ≤ 100000) : Ev (tLst ta) cs (Is (cD K (.list ds))) := (ev_lst h hz).freeze
/-- .. of data that are told by a property -/
def rowD (K : PySem.W.Frag) (P : List PyData → Prop) : List Cell → Prop := fun as => ∃ ds : List PyData, as = ds.map (cD K) ∧ P ds
theorem ea_nilD : EvA tNil cs (rowD K (fun ds => ds = [])) := ea_nil.imp fun as r => ⟨[], r, rfl⟩
theorem ea_consD {P : PyData → Prop} {Ps : List PyData → Prop} {tr : TA} (h : Ev te cs (isD K P)) (hr : EvA tr cs (rowD K Ps)) : EvA (tCons te tr) cs (rowD K (fun ds => ∃ d r, ds = d :: r ∧ P d ∧ Ps r)) :=
  (ea_consN h hr).imp fun as ⟨c, r, e, ⟨d, ed, pd⟩, ⟨ds, es, ps⟩⟩ => ⟨d :: ds, by rw [e, ed, es]; rfl, d, ds, rfl, pd, ps⟩
theorem ev_tupN {ta : TA} {P : List PyData → Prop} (h : EvA ta cs (rowD K P)) (hz : ∀ ds, P ds → ds.length ≤ 100000) : Ev (tTup ta) cs (isD K (fun d => ∃ ds, d = .tuple ds ∧ P ds)) := fun B0 F0 ts us σ H hl S Q q =>
  h B0 F0 ts us σ H hl S _ fun as vs H1 ⟨ds, r, p⟩ hv S1 => by
    subst r
    rw [List.length_map] at hv
    have z := hz ds p
    exact ⟨sz_of (by omega), fun p' hp => q _ _ _ ⟨_, rfl, ds, rfl, p⟩ (S1.new (by rw [List.length_map, List.length_map, hv]) hp fun B F f1 hB hh => .tup (SqT.of upd_same) (dpAll_same (same_upd hB) (holds_ds hh).1))⟩
theorem ev_lstN {ta : TA} {P : List PyData → Prop} (h : EvA ta cs (rowD K P)) (hz : ∀ ds, P ds → ds.length ≤ 100000) : Ev (tLst ta) cs (fun c => ∃ ds, isO K ds c ∧ P ds) := fun B0 F0 ts us σ H hl S Q q =>
  h B0 F0 ts us σ H hl S _ fun as vs H1 ⟨ds, r, p⟩ hv S1 => by
    subst r
    rw [List.length_map] at hv
    have z := hz ds p
    exact ⟨sz_of (by omega), fun p' hp => q _ _ _ ⟨ds, ⟨p', rfl⟩, p⟩ (S1.newOwn (by rw [List.length_map, List.length_map, hv]) hp fun B F f1 hh => (holds_ds hh).1)⟩
theorem atI_dp {H : Hp} {xs : List V} {ds : List PyData} {i : Int} {d : PyData} (h : DpAll K H xs ds) (e : atI ds i = some d) : ∃ v, atI xs i = some v ∧ Dp K H v d := by
  unfold atI at e ⊢
  rw [dpAll_len h]
  cases q : ixN ds.length i with
  | none =>
    rw [q] at e
    cases e
  | some j =>
    rw [q] at e
    have e' : ds[j]? = some d := e
    have hj : j < ds.length := (List.getElem?_eq_some_iff.mp e').1
    have hj' : j < xs.length := by rw [dpAll_len h]; exact hj
    obtain ⟨d', e2, r⟩ := dpAll_get h (List.getElem?_eq_getElem hj')
    rw [e'] at e2
    cases e2
    exact ⟨xs[j], List.getElem?_eq_getElem hj', r⟩
/-- the state, opened: B is the base, what comes of it may be laid -/
structure Opn (K : PySem.W.Frag) (B B0 F0 : Hp) (cs : List Cell) (σ : List (Option V)) (H : Hp) : Prop where
  same : Same B H
  push : ∀ w d, Dp K B w d → Sim B0 F0 (cD K d :: cs) (some w :: σ) H
  new : ∀ p o d, H p = none → (B p = none → Dp K (upd B p o) (.ref p) d) → Sim B0 F0 (cD K d :: cs) (some (.ref p) :: σ) (upd H p o)
  own : ∀ p ys es, H p = none → DpAll K B ys es → Sim B0 F0 (cOwn K p es :: cs) (some (.ref p) :: σ) (upd H p (.lst ys))
  raw : Sim B0 F0 cs σ H
theorem Opn.mk' {B0 F0 B F : Hp} {σ : List (Option V)} {fp : List Addr} (h2 : Dj B F) (h3 : Same B0 B) (h4 : Holds B F cs σ fp) (h5 : fp.Nodup) (h6 : ∀ a o, F0 a = some o → F a = some o ∧ a ∉ fp) : Opn K B B0 F0 cs σ (pl B F) where
  same := pl_same h2
  push := fun w d h => ⟨B, F, fp, rfl, h2, h3, ⟨[], fp, rfl, ⟨rfl, w, rfl, h⟩, h4⟩, h5, h6⟩
  new := fun p o d hp h => by
    obtain ⟨pF, pB⟩ := pl_none hp
    exact ⟨upd B p o, F, fp, pl_updB pF, dj_updB h2 pF, h3.trans (same_upd pB), ⟨[], fp, rfl, ⟨rfl, _, rfl, h pB⟩, h4.mono (same_upd pB)⟩, h5, h6⟩
  own := fun p ys es hp h => by
    obtain ⟨pF, pB⟩ := pl_none hp
    have np : p ∉ fp := fun m => h4.dom p m pF
    refine ⟨B, upd F p (.lst ys), p :: fp, pl_updF, dj_updF h2 pB, h3, ⟨[p], fp, rfl, ⟨rfl, rfl, ys, upd_same, h⟩, h4.loc fun a m => upd_ne fun z => np (z ▸ m)⟩, List.nodup_cons.mpr ⟨np, h5⟩, fun a o e => ?_⟩
    obtain ⟨q1, q2⟩ := h6 a o e
    have na : a ≠ p := fun z => by
      rw [z, pF] at q1
      cases q1
    refine ⟨(upd_ne na).trans q1, fun m => ?_⟩
    rcases List.mem_cons.mp m with z | z
    · exact na z
    · exact q2 z
  raw := ⟨B, F, fp, rfl, h2, h3, h4, h5, h6⟩
theorem Sim.opnDs {B0 F0 H : Hp} {σ : List (Option V)} {ds : List PyData} {vs : List V} (S : Sim B0 F0 (ds.map (cD K) ++ cs) (vs.map some ++ σ) H) (hv : vs.length = ds.length) : ∃ B, DpAll K B vs ds ∧ Opn K B B0 F0 cs σ H := by
  obtain ⟨B, F, fp, h1, h2, h3, h4, h5, h6⟩ := S
  obtain ⟨f1, f2, ef, r1, r2⟩ := Holds.split (by rw [List.length_map, List.length_map, hv]) h4
  obtain ⟨q1, q2⟩ := holds_ds r1
  subst q2
  subst h1
  rw [List.nil_append] at ef
  subst ef
  exact ⟨B, q1, .mk' h2 h3 r2 h5 h6⟩
theorem Sim.opnD1 {B0 F0 H : Hp} {σ : List (Option V)} {x : V} {d1 : PyData} (S : Sim B0 F0 (cD K d1 :: cs) (some x :: σ) H) : ∃ B, Dp K B x d1 ∧ Opn K B B0 F0 cs σ H := by
  obtain ⟨B, h, O⟩ := Sim.opnDs (ds := [d1]) (vs := [x]) S rfl
  cases h with
  | cons h _ => exact ⟨B, h, O⟩
theorem Sim.opnD2 {B0 F0 H : Hp} {σ : List (Option V)} {x y : V} {d1 d2 : PyData} (S : Sim B0 F0 (cD K d2 :: cD K d1 :: cs) (some y :: some x :: σ) H) : ∃ B, Dp K B x d1 ∧ Dp K B y d2 ∧ Opn K B B0 F0 cs σ H := by
  obtain ⟨B, h, O⟩ := Sim.opnDs (ds := [d2, d1]) (vs := [y, x]) S rfl
  cases h with
  | cons h r =>
    cases r with
    | cons h' _ => exact ⟨B, h', h, O⟩
/-- .. a list that is read, data or one's own -/
theorem Sim.opnL {B0 F0 H : Hp} {ts : List Cell} {us σ : List (Option V)} {c : Cell} {v : V} {ds : List PyData} (S : Sim B0 F0 (c :: (ts ++ cs)) (some v :: (us ++ σ)) H) (hl : us.length = ts.length) (r : Rdb K cs (.list ds) c) :
    ∃ B a xs, v = .ref a ∧ SqL K H a xs ∧ DpAll K B xs ds ∧ Opn K B B0 F0 (ts ++ cs) (us ++ σ) H := by
  rcases r with r | ⟨l, es, i, r, hi, e⟩
  · subst r
    obtain ⟨B, h, O⟩ := S.opnD1
    obtain ⟨a, xs, e, s, q⟩ := dp_lst h
    exact ⟨B, a, xs, e, O.same.seq s, q, O⟩
  · subst r
    cases e
    have hi' : (ts ++ cs)[ts.length + i]? = some (cOwn K l ds) := by rw [at_ts rfl]; exact hi
    have ev := S.pin (i := 0) (cV_pin (x := V.ref l)) rfl
    cases (Option.some.inj (Option.some.inj ev))
    obtain ⟨B, F, fp, h1, h2, h3, h4, h5, h6⟩ := S.pop
    obtain ⟨w, pre, mid, post, e1, e2, ⟨_, ew, vs, q1, q2⟩, k⟩ := Holds.get h4 hi'
    subst h1
    exact ⟨B, l, vs, rfl, SqL.of (pl_F q1), q2, .mk' h2 h3 h4 h5 h6⟩
/-- t[i] of a tuple, of a list -/
theorem ev_ixT {ds : List PyData} {i : Int} (ha : Ev ta cs (Is (cD K (.tuple ds)))) (hb : Ev tb cs (Is (cI K i))) (hi : atI ds i = some d) : Ev (tOp (rIxT K) ta tb) cs (Is (cD K d)) :=
  ev_op2 ha hb fun c1 c2 r1 r2 B0 F0 ts us σ H x y hl S Q q => by
    subst r1 r2
    obtain ⟨B, h1, h2, O⟩ := S.opnD2
    obtain ⟨a, xs, rfl, hs, hd⟩ := dp_tup h1
    obtain ⟨v, ev, rv⟩ := atI_dp hd hi
    exact ⟨a, xs, i, v, rfl, dp_int h2, sqT_same O.same hs, ev, q _ v H rfl (O.push v d rv)⟩
theorem ev_ixL {ds : List PyData} {i : Int} (ha : Ev ta cs (Rdb K cs (.list ds))) (hb : Ev tb cs (Is (cI K i))) (hi : atI ds i = some d) : Ev (tOp (rIxL K) ta tb) cs (Is (cD K d)) :=
  ev_op2 ha hb fun c1 c2 r1 r2 B0 F0 ts us σ H x y hl S Q q => by
    subst r2
    have ey := dp_int S.dp
    obtain ⟨B, a, xs, rfl, hs, hd, O⟩ := S.pop.opnL hl r1
    obtain ⟨v, ev, rv⟩ := atI_dp hd hi
    exact ⟨a, xs, i, v, rfl, ey, hs, ev, q _ v H rfl (O.push v d rv)⟩
def cutD (ds : List PyData) (lo hi : Option Int) : List PyData := (ds.drop (HT.sIx ds.length 0 lo)).take (HT.sIx ds.length ds.length hi - HT.sIx ds.length 0 lo)
theorem cut_dp {H : Hp} {xs : List V} {ds : List PyData} (h : DpAll K H xs ds) (lo hi : Option Int) : DpAll K H (cutV xs lo hi) (cutD ds lo hi) := by
  unfold cutV cutD
  rw [dpAll_len h]
  exact dpAll_take _ (dpAll_drop _ h)
def EvO (to : TO) (cs : List Cell) (o : Option Int) : Prop := ∀ (B0 F0 : Hp) (ts : List Cell) (us σ : List (Option V)) (H : Hp), us.length = ts.length → Sim B0 F0 (ts ++ cs) (us ++ σ) H →
  ∀ Q : Option Int → Hp → Prop, (∀ H', Sim B0 F0 (ts ++ cs) (us ++ σ) H' → Q o H') → to σ H Q
theorem eo_none : EvO tNoPart cs none := fun B0 F0 ts us σ H hl S Q q => q H S
theorem eo_some {i : Int} (h : Ev te cs (Is (cI K i))) : EvO (tPart te) cs (some i) := fun B0 F0 ts us σ H hl S Q q => h B0 F0 ts us σ H hl S _ fun c v H1 r S1 => by
  subst r
  exact ⟨i, dp_int S1.dp, q H1 S1.pop⟩
theorem ev_slT {tl th : TO} {lo hi : Option Int} {ds : List PyData} (h : Ev te cs (Is (cD K (.tuple ds)))) (h1 : EvO tl cs lo) (h2 : EvO th cs hi) : Ev (tSl (rSlA K) te tl th) cs (Is (cD K (.tuple (cutD ds lo hi)))) := fun B0 F0 ts us σ H hl S Q q =>
  h B0 F0 ts us σ H hl S _ fun c v H1 r S1 => h1 B0 F0 (c :: ts) (some v :: us) σ H1 (congrArg (· + 1) hl) S1 _ fun H2 S2 => h2 B0 F0 (c :: ts) (some v :: us) σ H2 (congrArg (· + 1) hl) S2 _ fun H3 S3 => by
    subst r
    obtain ⟨B, hd, O⟩ := Sim.opnD1 (cs := ts ++ cs) S3
    obtain ⟨a, xs, rfl, hs, ha⟩ := dp_tup hd
    refine ⟨a, xs, rfl, sqT_same O.same hs, fun z => ?_, fun _ p hp => ?_⟩
    · have e : cutD ds lo hi = ds := by
        unfold cutD
        rw [← dpAll_len ha, z.1, z.2, List.drop_zero, Nat.sub_zero, dpAll_len ha, List.take_length]
      refine q _ _ _ rfl ?_
      rw [e]
      exact O.push _ _ hd
    · exact q _ _ _ rfl (O.new p _ _ hp fun hB => .tup (SqT.of upd_same) (dpAll_same (same_upd hB) (cut_dp ha lo hi)))
theorem ev_slL {tl th : TO} {lo hi : Option Int} {ds : List PyData} (h : Ev te cs (Rdb K cs (.list ds))) (h1 : EvO tl cs lo) (h2 : EvO th cs hi) : Ev (tSl (rSlL K) te tl th) cs (isO K (cutD ds lo hi)) := fun B0 F0 ts us σ H hl S Q q =>
  h B0 F0 ts us σ H hl S _ fun c v H1 r S1 => h1 B0 F0 (c :: ts) (some v :: us) σ H1 (congrArg (· + 1) hl) S1 _ fun H2 S2 => h2 B0 F0 (c :: ts) (some v :: us) σ H2 (congrArg (· + 1) hl) S2 _ fun H3 S3 => by
    obtain ⟨B, a, xs, rfl, hs, hd, O⟩ := Sim.opnL (ts := ts) S3 hl r
    exact ⟨a, xs, rfl, hs, fun p hp => q _ _ _ ⟨p, rfl⟩ (O.own p _ _ hp (cut_dp hd lo hi))⟩
theorem ev_revL {ds : List PyData} (h : Ev te cs (Rdb K cs (.list ds))) : Ev (tRevL K te) cs (isO K ds.reverse) := fun B0 F0 ts us σ H hl S Q q =>
  h B0 F0 ts us σ H hl S _ fun c v H1 r S1 => by
    obtain ⟨B, a, xs, rfl, hs, hd, O⟩ := Sim.opnL (ts := ts) S1 hl r
    exact ⟨a, xs, rfl, hs, fun p hp => q _ _ _ ⟨p, rfl⟩ (O.own p _ _ hp (dpAll_rev hd))⟩
theorem ev_revT {ds : List PyData} (h : Ev te cs (Is (cD K (.tuple ds)))) : Ev (tRevT K te) cs (Is (cD K (.tuple ds.reverse))) := fun B0 F0 ts us σ H hl S Q q =>
  h B0 F0 ts us σ H hl S _ fun c v H1 r S1 => by
    subst r
    obtain ⟨B, hd, O⟩ := Sim.opnD1 (cs := ts ++ cs) S1
    obtain ⟨a, xs, rfl, hs, ha⟩ := dp_tup hd
    exact ⟨a, xs, rfl, sqT_same O.same hs, fun p hp => q _ _ _ rfl (O.new p _ _ hp fun hB => .tup (SqT.of upd_same) (dpAll_same (same_upd hB) (dpAll_rev ha)))⟩
theorem ev_cat {xs ys : List PyData} (ha : Ev ta cs (isO K xs)) (hb : Ev tb cs (isO K ys)) (hz : xs.length + ys.length ≤ 100000) : Ev (tOp rCat ta tb) cs (isO K (xs ++ ys)) :=
  ev_op2 ha hb fun c1 c2 ⟨l, r1⟩ ⟨m, r2⟩ B0 F0 ts us σ H x y hl S Q q => by
    subst r1 r2
    obtain ⟨B, F, fp, h1, h2, h3, ⟨f1, _, ef, ⟨e1, ey, vs, q1, q2⟩, ⟨g1, g2, eg, ⟨e2, ex, ws, q3, q4⟩, r⟩⟩, h5, h6⟩ := S
    cases ex
    cases ey
    subst h1
    subst eg
    subst ef
    have O : Opn K B B0 F0 (ts ++ cs) (us ++ σ) (pl B F) := .mk' h2 h3 r (List.nodup_append.mp (List.nodup_append.mp h5).2.1).2.1 fun a o e => ⟨(h6 a o e).1, fun m => (h6 a o e).2 (by simp [m])⟩
    exact ⟨l, m, ws, vs, rfl, rfl, pl_F q3, pl_F q1, by rw [dpAll_len q2, dpAll_len q4]; exact sz_of hz, fun p hp => q _ _ _ ⟨p, rfl⟩ (O.own p _ _ hp (dpAll_cat q4 q2))⟩
theorem flat_dp {H : Hp} {xs : List V} {ds : List PyData} (h : DpAll K H xs ds) : ∀ n, DpAll K H (List.replicate n xs).flatten (List.replicate n ds).flatten
  | 0 => .nil
  | n + 1 => by
    rw [List.replicate_succ, List.replicate_succ, List.flatten_cons, List.flatten_cons]
    exact dpAll_cat h (flat_dp h n)
theorem ev_rep {xs : List PyData} {n : Int} (ha : Ev ta cs (isO K xs)) (hb : Ev tb cs (Is (cI K n))) (h1 : -1000000 ≤ n ∧ n ≤ 1000000) (hz : xs.length * n.toNat ≤ 100000) : Ev (tOp rRep ta tb) cs (isO K (List.replicate n.toNat xs).flatten) :=
  ev_op2 ha hb fun c1 c2 ⟨l, r1⟩ r2 B0 F0 ts us σ H x y hl S Q q => by
    subst r1 r2
    have ey := dp_int S.dp
    obtain ⟨B, F, fp, h0, h2, h3, ⟨g1, g2, eg, ⟨e2, ex, ws, q3, q4⟩, r⟩, h5, h6⟩ := S.pop
    cases ex
    subst h0
    subst eg
    have O : Opn K B B0 F0 (ts ++ cs) (us ++ σ) (pl B F) := .mk' h2 h3 r (List.nodup_append.mp h5).2.1 fun a o e => ⟨(h6 a o e).1, fun m => (h6 a o e).2 (by simp [m])⟩
    exact ⟨l, n, ws, rfl, ey, pl_F q3, by omega, by omega, by rw [dpAll_len q4]; exact sz_of hz, fun p hp => q _ _ _ ⟨p, rfl⟩ (O.own p _ _ hp (flat_dp q4 _))⟩
theorem ev_catT {xs ys : List PyData} (ha : Ev ta cs (Is (cD K (.tuple xs)))) (hb : Ev tb cs (Is (cD K (.tuple ys)))) (hz : xs.length + ys.length ≤ 100000) : Ev (tOp (rCatA K) ta tb) cs (Is (cD K (.tuple (xs ++ ys)))) :=
  ev_op2 ha hb fun c1 c2 r1 r2 B0 F0 ts us σ H x y hl S Q q => by
    subst r1 r2
    obtain ⟨B, h1, h2, O⟩ := S.opnD2
    obtain ⟨a, vs, rfl, hs, hd⟩ := dp_tup h1
    obtain ⟨b, ws, rfl, ht, he⟩ := dp_tup h2
    have l1 := dpAll_len hd
    have l2 := dpAll_len he
    refine ⟨a, b, vs, ws, rfl, rfl, sqT_same O.same hs, sqT_same O.same ht, by rw [l1, l2]; exact sz_of hz, fun z => ?_, fun _ z => ?_, fun _ _ p hp => ?_⟩
    · subst z
      have e : xs = [] := List.length_eq_zero_iff.mp (by rw [← l1]; rfl)
      subst e
      exact q _ _ _ rfl (O.push _ _ h2)
    · subst z
      have e : ys = [] := List.length_eq_zero_iff.mp (by rw [← l2]; rfl)
      subst e
      refine q _ _ _ rfl ?_
      rw [List.append_nil]
      exact O.push _ _ h1
    · exact q _ _ _ rfl (O.new p _ _ hp fun hB => .tup (SqT.of upd_same) (dpAll_same (same_upd hB) (dpAll_cat hd he)))
/-- one argument, data that is read -/
theorem ev_cb1 {r : List V → Hp → VK → Prop} (h : Ev te cs Ra) (hr : ∀ c, Ra c → ∀ (B0 F0 : Hp) (ts : List Cell) (us σ : List (Option V)) (H : Hp) (x : V), us.length = ts.length → Sim B0 F0 (c :: (ts ++ cs)) (some x :: (us ++ σ)) H →
    ∀ Q : VK, (∀ c v H', R c → Sim B0 F0 (c :: (ts ++ cs)) (some v :: (us ++ σ)) H' → Q v H') → r [x] H Q) : Ev (tCB r (tCons te tNil)) cs R := fun B0 F0 ts us σ H hl S Q q =>
  h B0 F0 ts us σ H hl S _ fun c v H1 r1 S1 => hr c r1 B0 F0 ts us σ H1 v hl S1 Q q
theorem ev_lenL {ds : List PyData} (h : Ev te cs (Rdb K cs (.list ds))) : Ev (tCB (fun xs H Q => ∃ p ys, xs = [.ref p] ∧ (SqL K H p ys ∨ SqT K H p ys) ∧ Q (.int ys.length) H) (tCons te tNil)) cs (Is (cI K ds.length)) :=
  ev_cb1 h fun c r B0 F0 ts us σ H x hl S Q q => by
    obtain ⟨B, a, xs, rfl, hs, hd, O⟩ := S.opnL hl r
    exact ⟨a, xs, rfl, .inl hs, q _ _ _ rfl (O.push _ _ (by rw [dpAll_len hd]; exact .int _))⟩
theorem ev_lenT {ds : List PyData} (h : Ev te cs (Is (cD K (.tuple ds)))) : Ev (tCB (fun xs H Q => ∃ p ys, xs = [.ref p] ∧ (SqL K H p ys ∨ SqT K H p ys) ∧ Q (.int ys.length) H) (tCons te tNil)) cs (Is (cI K ds.length)) :=
  ev_cb1 h fun c r B0 F0 ts us σ H x hl S Q q => by
    subst r
    obtain ⟨B, h1, O⟩ := S.opnD1
    obtain ⟨a, xs, rfl, hs, hd⟩ := dp_tup h1
    exact ⟨a, xs, rfl, .inr (sqT_same O.same hs), q _ _ _ rfl (O.push _ _ (by rw [dpAll_len hd]; exact .int _))⟩
theorem ev_tupleL {ds : List PyData} (h : Ev te cs (Rdb K cs (.list ds))) : Ev (tCB (fun xs H Q => ∃ p ys, xs = [.ref p] ∧ ((SqL K H p ys ∧ ∀ l, H l = none → Q (.ref l) (upd H l (.tup ys))) ∨ (SqT K H p ys ∧ Q (.ref p) H))) (tCons te tNil)) cs (Is (cD K (.tuple ds))) :=
  ev_cb1 h fun c r B0 F0 ts us σ H x hl S Q q => by
    obtain ⟨B, a, xs, rfl, hs, hd, O⟩ := S.opnL hl r
    exact ⟨a, xs, rfl, .inl ⟨hs, fun p hp => q _ _ _ rfl (O.new p _ _ hp fun hB => .tup (SqT.of upd_same) (dpAll_same (same_upd hB) hd))⟩⟩
theorem ev_tupleT {ds : List PyData} (h : Ev te cs (Is (cD K (.tuple ds)))) : Ev (tCB (fun xs H Q => ∃ p ys, xs = [.ref p] ∧ ((SqL K H p ys ∧ ∀ l, H l = none → Q (.ref l) (upd H l (.tup ys))) ∨ (SqT K H p ys ∧ Q (.ref p) H))) (tCons te tNil)) cs (Is (cD K (.tuple ds))) :=
  ev_cb1 h fun c r B0 F0 ts us σ H x hl S Q q => by
    subst r
    obtain ⟨B, h1, O⟩ := S.opnD1
    obtain ⟨a, xs, rfl, hs, hd⟩ := dp_tup h1
    exact ⟨a, xs, rfl, .inr ⟨sqT_same O.same hs, q _ _ _ rfl (O.push _ _ h1)⟩⟩
theorem ev_listL {ds : List PyData} (h : Ev te cs (Rdb K cs (.list ds))) : Ev (tCB (fun xs H Q => ∃ p ys, xs = [.ref p] ∧ (SqL K H p ys ∨ SqT K H p ys) ∧ ∀ l, H l = none → Q (.ref l) (upd H l (.lst ys))) (tCons te tNil)) cs (isO K ds) :=
  ev_cb1 h fun c r B0 F0 ts us σ H x hl S Q q => by
    obtain ⟨B, a, xs, rfl, hs, hd, O⟩ := S.opnL hl r
    exact ⟨a, xs, rfl, .inl hs, fun p hp => q _ _ _ ⟨p, rfl⟩ (O.own p _ _ hp hd)⟩
theorem ev_listT {ds : List PyData} (h : Ev te cs (Is (cD K (.tuple ds)))) : Ev (tCB (fun xs H Q => ∃ p ys, xs = [.ref p] ∧ (SqL K H p ys ∨ SqT K H p ys) ∧ ∀ l, H l = none → Q (.ref l) (upd H l (.lst ys))) (tCons te tNil)) cs (isO K ds) :=
  ev_cb1 h fun c r B0 F0 ts us σ H x hl S Q q => by
    subst r
    obtain ⟨B, h1, O⟩ := S.opnD1
    obtain ⟨a, xs, rfl, hs, hd⟩ := dp_tup h1
    exact ⟨a, xs, rfl, .inr (sqT_same O.same hs), fun p hp => q _ _ _ ⟨p, rfl⟩ (O.own p _ _ hp hd)⟩
theorem ev_int1 {n : Int} (h : Ev te cs (Is (cI K n))) : Ev (tCB (fun xs H Q => (∃ i, xs = [.int i] ∧ Q (.int i) H) ∨ ∃ k, xs = [.bl k] ∧ Q (.int (if k then 1 else 0)) H) (tCons te tNil)) cs (Is (cI K n)) :=
  ev_cb1 h fun c r B0 F0 ts us σ H x hl S Q q => by
    subst r
    exact .inl ⟨n, congrArg (fun z => [z]) (dp_int S.dp), q _ _ _ rfl (S.pop.pushD fun _ => .int n)⟩
theorem ev_abs {n : Int} (h : Ev te cs (Is (cI K n))) : Ev (tCB (fun xs H Q => ∃ i, xs = [.int i] ∧ Q (.int (if i < 0 then -i else i)) H) (tCons te tNil)) cs (Is (cI K (n.natAbs : Int))) :=
  ev_cb1 h fun c r B0 F0 ts us σ H x hl S Q q => by
    subst r
    refine ⟨n, congrArg (fun z => [z]) (dp_int S.dp), ?_⟩
    have e : (if n < 0 then -n else n) = (n.natAbs : Int) := by split <;> omega
    rw [e]
    exact q _ _ _ rfl (S.pop.pushD fun _ => .int _)
theorem ev_cb2 {r : List V → Hp → VK → Prop} (ha : Ev ta cs Ra) (hb : Ev tb cs Rb) (hr : ∀ c1 c2, Ra c1 → Rb c2 → ∀ (B0 F0 : Hp) (ts : List Cell) (us σ : List (Option V)) (H : Hp) (x y : V), us.length = ts.length → Sim B0 F0 (c2 :: c1 :: (ts ++ cs)) (some y :: some x :: (us ++ σ)) H →
    ∀ Q : VK, (∀ c v H', R c → Sim B0 F0 (c :: (ts ++ cs)) (some v :: (us ++ σ)) H' → Q v H') → r [x, y] H Q) : Ev (tCB r (tCons ta (tCons tb tNil))) cs R := fun B0 F0 ts us σ H hl S Q q =>
  ha B0 F0 ts us σ H hl S _ fun c1 x H1 r1 S1 => hb B0 F0 (c1 :: ts) (some x :: us) σ H1 (congrArg (· + 1) hl) S1 _ fun c2 y H2 r2 S2 => hr c1 c2 r1 r2 B0 F0 ts us σ H2 x y hl S2 Q q
theorem ev_max2 {a b : Int} (ha : Ev ta cs (Is (cI K a))) (hb : Ev tb cs (Is (cI K b))) : Ev (tCB (fun xs H Q => ∃ i j, xs = [.int i, .int j] ∧ Q (.int (if j > i then j else i)) H) (tCons ta (tCons tb tNil))) cs (Is (cI K (max a b))) :=
  ev_cb2 ha hb fun c1 c2 r1 r2 B0 F0 ts us σ H x y hl S Q q => by
    subst r1 r2
    have e1 := dp_int S.swap.dp
    have e2 := dp_int S.dp
    refine ⟨a, b, by rw [e1, e2], ?_⟩
    have e : (if b > a then b else a) = max a b := by split <;> omega
    rw [e]
    exact q _ _ _ rfl (S.pop.pop.pushD fun _ => .int _)
theorem ev_min2 {a b : Int} (ha : Ev ta cs (Is (cI K a))) (hb : Ev tb cs (Is (cI K b))) : Ev (tCB (fun xs H Q => ∃ i j, xs = [.int i, .int j] ∧ Q (.int (if j < i then j else i)) H) (tCons ta (tCons tb tNil))) cs (Is (cI K (min a b))) :=
  ev_cb2 ha hb fun c1 c2 r1 r2 B0 F0 ts us σ H x y hl S Q q => by
    subst r1 r2
    have e1 := dp_int S.swap.dp
    have e2 := dp_int S.dp
    refine ⟨a, b, by rw [e1, e2], ?_⟩
    have e : (if b < a then b else a) = min a b := by split <;> omega
    rw [e]
    exact q _ _ _ rfl (S.pop.pop.pushD fun _ => .int _)
theorem ev_all {bs : List Bool} (h : Ev te cs (Rdb K cs (.list (bs.map .bool)))) : Ev (tCB (rAll K) (tCons te tNil)) cs (Is (cB K (bs.all id))) :=
  ev_cb1 h fun c r B0 F0 ts us σ H x hl S Q q => by
    obtain ⟨B, a, xs, rfl, hs, hd, O⟩ := S.opnL hl r
    rw [dpAll_bools hd] at hs
    exact ⟨a, bs, rfl, hs, q _ _ _ rfl (O.push _ _ (.bl _))⟩
theorem ev_any {bs : List Bool} (h : Ev te cs (Rdb K cs (.list (bs.map .bool)))) : Ev (tCB (rAny K) (tCons te tNil)) cs (Is (cB K (bs.any id))) :=
  ev_cb1 h fun c r B0 F0 ts us σ H x hl S Q q => by
    obtain ⟨B, a, xs, rfl, hs, hd, O⟩ := S.opnL hl r
    rw [dpAll_bools hd] at hs
    exact ⟨a, bs, rfl, hs, q _ _ _ rfl (O.push _ _ (.bl _))⟩
theorem ev_sum {ns : List Int} (h : Ev te cs (Rdb K cs (lI ns))) : Ev (tCB (rSum K) (tCons te tNil)) cs (Is (cI K ns.sum)) :=
  ev_cb1 h fun c r B0 F0 ts us σ H x hl S Q q => by
    obtain ⟨B, a, xs, rfl, hs, hd, O⟩ := S.opnL hl r
    rw [dpAll_ints hd] at hs
    exact ⟨a, ns, rfl, hs, q _ _ _ rfl (O.push _ _ (.int _))⟩
theorem ev_maxL {ns : List Int} {m : Int} (h : Ev te cs (Rdb K cs (lI ns))) (hm : m ∈ ns) (hle : ∀ y ∈ ns, y ≤ m) : Ev (tCB (rMax K) (tCons te tNil)) cs (Is (cI K m)) :=
  ev_cb1 h fun c r B0 F0 ts us σ H x hl S Q q => by
    obtain ⟨B, a, xs, rfl, hs, hd, O⟩ := S.opnL hl r
    rw [dpAll_ints hd] at hs
    refine ⟨a, ns, rfl, hs, List.length_pos_of_mem hm, fun k hk hb => ?_⟩
    have e : k = m := Int.le_antisymm (hle k hk) (hb m hm)
    subst e
    exact q _ _ _ rfl (O.push _ _ (.int _))
end
end Z
namespace Z
open PySem L2 RT
section
variable {K : PySem.W.Frag} {cs : List Cell} {te ta tb tc : TE} {R Ra Rb : Cell → Prop} {d e : PyData} {tt t u : TT} {P P' : Bool → Prop}
def tyD : PyData → String
  | .none => "NoneType" | .bool _ => "bool" | .int _ => "int" | .str _ => "str" | .list _ => "list" | .tuple _ => "tuple" | .dict _ => "dict"
theorem ty_dp {H : Hp} {v : V} (h : Dp K H v d) : TyX K H v (.type (tyD d)) := by
  cases h with
  | non => exact .base .non
  | bl b => exact .base (.bl b)
  | int i => exact .base (.int i)
  | str x => exact .base (.str x)
  | lst s a =>
    rcases s with (s | ⟨o, s⟩) | ⟨o, its, n, s, c, _⟩
    · exact .base (.lst s)
    · exact .base (.frz s)
    · exact .kList s c
  | tup s a =>
    rcases s with (s | ⟨o, s⟩) | ⟨o, its, n, s, c, _⟩
    · exact .base (.tup s)
    · exact .fTuple s
    · exact .kTuple s c
theorem ty_same {H H' : Hp} {v : V} (e : Same H H') (h : Dp K H v d) : TyX K H' v (.type (tyD d)) := ty_dp (dp_same e h)
/-- isinstance(x, nm), nm a built-in class -/
theorem ev_isi {nm : String} {b : Bool} (ha : Ev ta cs (Rdb K cs d)) (hk : kitB (tyD d) nm = some b) : Ev (tCB (rIsi K) (tCons ta (tCons (tC (.ty nm)) tNil))) cs (Is (cB K b)) :=
  ev_cb2 ha (ev_v (x := .ty nm)) fun c1 c2 r1 r2 B0 F0 ts us σ H x y hl S Q q => by
    subst r2
    have ey := S.pin (i := 0) (cV_pin (x := .ty nm)) rfl
    cases (Option.some.inj (Option.some.inj ey))
    have hd := S.pop.rd hl r1
    exact ⟨x, .ty nm, _, _, b, rfl, .ty nm, ty_dp hd, kit_ty hk, q _ _ _ rfl (S.pop.pop.pushD fun _ => .bl b)⟩
theorem Sim.junk {B0 F0 H : Hp} {σ : List (Option V)} {p : Addr} {o : HO} (S : Sim B0 F0 cs σ H) (hp : H p = none) : Sim B0 F0 cs σ (upd H p o) ∧ ∀ x d, Dp K H x d → Dp K (upd H p o) x d := by
  obtain ⟨B, F, fp, h1, h2, h3, h4, h5, h6⟩ := S
  subst h1
  obtain ⟨pF, pB⟩ := pl_none hp
  exact ⟨⟨upd B p o, F, fp, pl_updB pF, dj_updB h2 pF, h3.trans (same_upd pB), h4.mono (same_upd pB), h5, h6⟩, fun x d h => dp_same (same_upd hp) h⟩
/-- isinstance(x, (n1, n2)) -/
theorem ev_isi2 {n1 n2 : String} {b1 b2 : Bool} (ha : Ev ta cs (Rdb K cs d)) (h1 : kitB (tyD d) n1 = some b1) (h2 : kitB (tyD d) n2 = some b2) :
    Ev (tCB (rIsiT K) (tCons ta (tCons (tTup (tCons (tC (.ty n1)) (tCons (tC (.ty n2)) tNil))) tNil))) cs (Is (cB K (b1 || b2))) := fun B0 F0 ts us σ H hl S Q q =>
  ha B0 F0 ts us σ H hl S _ fun c x H1 r S1 => by
    have hd := S1.rd hl r
    refine ⟨sz_of (by show 2 ≤ 100000; decide), fun p hp => ?_⟩
    obtain ⟨S2, k⟩ := S1.junk (K := K) (o := .tup [.ty n1, .ty n2]) hp
    refine ⟨x, p, [.ty n1, .ty n2], _, [.type n1, .type n2], b1 || b2, rfl, upd_same, .cons (.ty n1) (.cons (.ty n2) .nil), ty_dp (k _ _ hd), ?_, q _ _ _ rfl (S2.pop.pushD fun _ => .bl _)⟩
    refine kitAny_cons (kit_ty h1) (fun e => ?_) (fun e => by rw [e]; rfl)
    subst e
    refine kitAny_cons (kit_ty h2) (fun e => ?_) (fun e => by rw [e]; rfl)
    subst e
    rfl
def EvI (wi : TI) (cs : List Cell) (n : Nat) (Rc : Nat → Cell → Prop) : Prop := ∀ (B0 F0 : Hp) (ts : List Cell) (us σ : List (Option V)) (H : Hp), us.length = ts.length → Sim B0 F0 (ts ++ cs) (us ++ σ) H → ∀ Q : It → Hp → Prop,
  (∀ (J : It) (B1 H' : Hp) (G : Hp → Prop) (Y : Nat → Hp → V → Hp → Prop), Walk J n G Y → Same B0 B1 → Sim B1 F0 (ts ++ cs) (us ++ σ) H' →
    (∀ cs' σ' H1, Sim B1 F0 cs' σ' H1 → G H1) → (∀ i cs' σ' H1 x H2, i < n → Sim B1 F0 cs' σ' H1 → Y i H1 x H2 → ∃ c, Rc i c ∧ Sim B1 F0 (c :: cs') (some x :: σ') H2) → Q J H') → wi σ H Q
/-- the state over its own base -/
theorem Opn.root {B B0 F0 H : Hp} {σ : List (Option V)} (O : Opn K B B0 F0 cs σ H) : True := trivial
theorem Sim.based {B0 F0 H : Hp} {σ : List (Option V)} (S : Sim B0 F0 cs σ H) : ∃ B, Same B0 B ∧ Same B H ∧ Sim B F0 cs σ H := by
  obtain ⟨B, F, fp, h1, h2, h3, h4, h5, h6⟩ := S
  subst h1
  exact ⟨B, h3, pl_same h2, B, F, fp, rfl, h2, fun _ _ h => h, h4, h5, h6⟩
theorem Sim.sub {B0 F0 H : Hp} {σ : List (Option V)} (S : Sim B0 F0 cs σ H) : Same B0 H := by
  obtain ⟨B, F, fp, h1, h2, h3, h4, h5, h6⟩ := S
  rw [h1]
  exact h3.trans (pl_same h2)
theorem Sim.add {B0 F0 H : Hp} {σ : List (Option V)} {x : V} (S : Sim B0 F0 cs σ H) (h : Dp K B0 x d) : Sim B0 F0 (cD K d :: cs) (some x :: σ) H := by
  obtain ⟨B, F, fp, h1, h2, h3, h4, h5, h6⟩ := S
  exact ⟨B, F, fp, h1, h2, h3, ⟨[], fp, rfl, ⟨rfl, x, rfl, dp_same h3 h⟩, h4⟩, h5, h6⟩
theorem Sim.addNew {B0 F0 H : Hp} {σ : List (Option V)} {p : Addr} {vs : List V} {ds : List PyData} (S : Sim B0 F0 cs σ H) (hp : H p = none) (h : DpAll K B0 vs ds) : Sim B0 F0 (cD K (.tuple ds) :: cs) (some (.ref p) :: σ) (upd H p (.tup vs)) := by
  obtain ⟨B, F, fp, h1, h2, h3, h4, h5, h6⟩ := S
  subst h1
  obtain ⟨pF, pB⟩ := pl_none hp
  exact ⟨upd B p (.tup vs), F, fp, pl_updB pF, dj_updB h2 pF, h3.trans (same_upd pB), ⟨[], fp, rfl, ⟨rfl, _, rfl, .tup (SqT.of upd_same) (dpAll_same (h3.trans (same_upd pB)) h)⟩, h4.mono (same_upd pB)⟩, h5, h6⟩
/-- data that stands in front is of a later base -/
theorem Sim.baseD {B0 F0 H : Hp} {σ : List (Option V)} {ds : List PyData} {vs : List V} (S : Sim B0 F0 (ds.map (cD K) ++ cs) (vs.map some ++ σ) H) (hv : vs.length = ds.length) : ∃ B, Same B0 B ∧ DpAll K B vs ds ∧ Same B H ∧ Sim B F0 cs σ H := by
  obtain ⟨B, F, fp, h1, h2, h3, h4, h5, h6⟩ := S
  obtain ⟨f1, f2, ef, r1, r2⟩ := Holds.split (by rw [List.length_map, List.length_map, hv]) h4
  obtain ⟨q1, q2⟩ := holds_ds r1
  subst q2
  subst h1
  rw [List.nil_append] at ef
  subst ef
  exact ⟨B, h3, q1, pl_same h2, B, F, fp, rfl, h2, fun _ _ h => h, r2, h5, h6⟩
def itemIs (K : PySem.W.Frag) (ds : List PyData) : Nat → Cell → Prop := fun i c => ∃ d, ds[i]? = some d ∧ c = cD K d
theorem ei_tup {ds : List PyData} (h : Ev te cs (Is (cD K (.tuple ds)))) : EvI (iTup K te) cs ds.length (itemIs K ds) := fun B0 F0 ts us σ H hl S Q q =>
  h B0 F0 ts us σ H hl S _ fun c x H1 r S1 => by
    subst r
    obtain ⟨B, s0, hd, sH, S2⟩ := Sim.baseD (K := K) (ds := [.tuple ds]) (vs := [x]) S1 rfl
    cases hd with
    | cons hd _ =>
      obtain ⟨a, xs, rfl, hs, ha⟩ := dp_tup hd
      refine ⟨a, rfl, ⟨xs, sqT_same sH hs⟩, ?_⟩
      have w : Walk (Itt K a) ds.length (fun H => SqT K H a xs) (YAt xs) := by
        rw [← dpAll_len ha]
        exact walk_tup
      exact q _ B H1 _ _ w s0 S2 (fun cs' σ' H' S' => sqT_same S'.sub hs) fun i cs' σ' H' x H2 hi S' ⟨eH, ex⟩ => by
        subst eH
        obtain ⟨d, e1, e2⟩ := dpAll_get ha ex
        exact ⟨_, ⟨d, e1, rfl⟩, S'.add e2⟩
theorem ei_list {ds : List PyData} (h : Ev te cs (Is (cD K (.list ds)))) : EvI (iList K te) cs ds.length (itemIs K ds) := fun B0 F0 ts us σ H hl S Q q =>
  h B0 F0 ts us σ H hl S _ fun c x H1 r S1 => by
    subst r
    obtain ⟨B, s0, hd, sH, S2⟩ := Sim.baseD (K := K) (ds := [.list ds]) (vs := [x]) S1 rfl
    cases hd with
    | cons hd _ =>
      obtain ⟨a, xs, rfl, hs, ha⟩ := dp_lst hd
      refine ⟨a, rfl, ⟨xs, sH.seq hs⟩, ?_⟩
      have w : Walk (Itl K a) ds.length (fun H => SqL K H a xs) (YAt xs) := by
        rw [← dpAll_len ha]
        exact walk_list
      exact q _ B H1 _ _ w s0 S2 (fun cs' σ' H' S' => S'.sub.seq hs) fun i cs' σ' H' x H2 hi S' ⟨eH, ex⟩ => by
        subst eH
        obtain ⟨d, e1, e2⟩ := dpAll_get ha ex
        exact ⟨_, ⟨d, e1, rfl⟩, S'.add e2⟩
theorem ei_rng1N {P : Int → Prop} (h : Ev te cs (isI K P)) (hb : ∀ n, P n → -1000000 ≤ n ∧ n ≤ 1000000) (B0 F0 : Hp) (ts : List Cell) (us σ : List (Option V)) (H : Hp) (hl : us.length = ts.length) (S : Sim B0 F0 (ts ++ cs) (us ++ σ) H) (Q : It → Hp → Prop)
    (q : ∀ n H', P n → Sim B0 F0 (ts ++ cs) (us ++ σ) H' → Q (Itr 0 n.toNat) H') : iRng1 (tCons te tNil) σ H Q :=
  h B0 F0 ts us σ H hl S _ fun c x H1 ⟨n, r, p⟩ S1 => by
    subst r
    have ex := dp_int S1.dp
    have b := hb n p
    exact ⟨n, by rw [ex], by omega, by omega, q n H1 p S1.pop⟩
theorem ei_rng1 {n : Int} (h : Ev te cs (Is (cI K n))) (hb : -1000000 ≤ n ∧ n ≤ 1000000) : EvI (iRng1 (tCons te tNil)) cs n.toNat (fun i c => c = cI K i) := fun B0 F0 ts us σ H hl S Q q =>
  h B0 F0 ts us σ H hl S _ fun c x H1 r S1 => by
    subst r
    have ex := dp_int S1.dp
    exact ⟨n, by rw [ex], by omega, by omega, q _ B0 H1 _ _ walk_range (fun _ _ h => h) S1.pop (fun _ _ _ _ => trivial) fun i cs' σ' H' x H2 hi S' ⟨eH, ex⟩ => by
      subst eH
      subst ex
      exact ⟨_, rfl, S'.pushD fun B => (show Dp K B (.int (0 + (i : Int))) (.int (i : Int)) by rw [Int.zero_add]; exact .int _)⟩⟩
theorem ei_rng2 {a b : Int} (h1 : Ev ta cs (Is (cI K a))) (h2 : Ev tb cs (Is (cI K b))) (hb : -1000000 ≤ a ∧ a ≤ 1000000 ∧ -1000000 ≤ b ∧ b ≤ 1000000) : EvI (iRng2 (tCons ta (tCons tb tNil))) cs (b - a).toNat (fun i c => c = cI K (a + i)) := fun B0 F0 ts us σ H hl S Q q =>
  h1 B0 F0 ts us σ H hl S _ fun c1 x H1 r1 S1 => h2 B0 F0 (c1 :: ts) (some x :: us) σ H1 (congrArg (· + 1) hl) S1 _ fun c2 y H2 r2 S2 => by
    subst r1 r2
    have ex := dp_int (Sim.swap S2).dp
    have ey := dp_int S2.dp
    exact ⟨a, b, by rw [ex, ey], by omega, q _ B0 H2 _ _ walk_range (fun _ _ h => h) (Sim.pop S2).pop (fun _ _ _ _ => trivial) fun i cs' σ' H' x H2 hi S' ⟨eH, ex⟩ => by
      subst eH
      subst ex
      exact ⟨_, rfl, S'.pushD fun _ => .int _⟩⟩
/-- range(a, b, -1) -/
theorem ei_rngD {a b : Int} (h1 : Ev ta cs (Is (cI K a))) (h2 : Ev tb cs (Is (cI K b))) (h3 : Ev tc cs (Is (cI K (-1)))) (hb : -1000000 ≤ a ∧ a ≤ 1000000 ∧ -1000000 ≤ b ∧ b ≤ 1000000) :
    EvI (iRng3 (tCons ta (tCons tb (tCons tc tNil)))) cs (a - b).toNat (fun i c => c = cI K (a - i)) := fun B0 F0 ts us σ H hl S Q q =>
  h1 B0 F0 ts us σ H hl S _ fun c1 x H1 r1 S1 => h2 B0 F0 (c1 :: ts) (some x :: us) σ H1 (congrArg (· + 1) hl) S1 _ fun c2 y H2 r2 S2 => h3 B0 F0 (c2 :: c1 :: ts) (some y :: some x :: us) σ H2 (congrArg (· + 2) hl) S2 _ fun c3 z H3 r3 S3 => by
    subst r1 r2 r3
    have ez := dp_int S3.dp
    have ey := dp_int (Sim.pop S3).dp
    have ex := dp_int (Sim.pop (Sim.pop S3)).dp
    exact ⟨a, b, -1, _, by rw [ex, ey, ez], RgC.neg (by omega) (by omega) (by omega) (by omega), q _ B0 H3 _ _ walk_rangeC (fun _ _ h => h) (Sim.pop (Sim.pop (Sim.pop S3))) (fun _ _ _ _ => trivial) fun i cs' σ' H' x H2 hi S' ⟨eH, ex⟩ => by
      subst eH
      subst ex
      refine ⟨_, rfl, S'.pushD fun B => ?_⟩
      have e : a + (i : Int) * -1 = a - i := by omega
      show Dp K B (.int (a + (i : Int) * -1)) (.int (a - i))
      rw [e]
      exact .int _⟩
theorem sq_of_dp {b : Bool} {H : Hp} {v : V} {ds : List PyData} (h : Dp K H v (if b = true then .tuple ds else .list ds)) : ∃ a xs, v = .ref a ∧ Sq K b H a xs ∧ DpAll K H xs ds := by
  cases b with
  | true =>
    obtain ⟨a, xs, e, s, r⟩ := dp_tup (show Dp K H v (.tuple ds) from h)
    exact ⟨a, xs, e, s, r⟩
  | false =>
    obtain ⟨a, xs, e, s, r⟩ := dp_lst (show Dp K H v (.list ds) from h)
    exact ⟨a, xs, e, s, r⟩
def seqD (b : Bool) (ds : List PyData) : PyData := if b = true then .tuple ds else .list ds
theorem ei_enum {b : Bool} {ds : List PyData} (h : Ev te cs (Is (cD K (seqD b ds)))) : EvI (iEnumM K b (tCons te tNil)) cs ds.length (fun i c => ∃ d, ds[i]? = some d ∧ c = cD K (.tuple [.int i, d])) := fun B0 F0 ts us σ H hl S Q q =>
  h B0 F0 ts us σ H hl S _ fun c x H1 r S1 => by
    subst r
    obtain ⟨B, s0, hd, sH, S2⟩ := Sim.baseD (K := K) (ds := [seqD b ds]) (vs := [x]) S1 rfl
    cases hd with
    | cons hd _ =>
      obtain ⟨a, xs, rfl, hs, ha⟩ := sq_of_dp hd
      refine ⟨a, xs, rfl, Sq.same sH hs, ?_⟩
      have w : Walk (IteM K b a) ds.length (fun H => Sq K b H a xs) (YPair (fun i => some (.int (i : Nat))) (fun i => xs[i]?)) := by
        rw [← dpAll_len ha]
        exact walk_enumM
      exact q _ B H1 _ _ w s0 S2 (fun cs' σ' H' S' => Sq.same S'.sub hs) fun i cs' σ' H' x H2 hi S' ⟨T, u, v, ex, hT, eH, e1, e2⟩ => by
        subst ex eH
        obtain ⟨d, e3, e4⟩ := dpAll_get ha e2
        have e5 : V.int (i : Nat) = u := Option.some.inj e1
        subst e5
        exact ⟨_, ⟨d, e3, rfl⟩, S'.addNew hT (.cons (.int _) (.cons e4 .nil))⟩
theorem ei_zip {b1 b2 : Bool} {ds es : List PyData} (h1 : Ev ta cs (Is (cD K (seqD b1 ds)))) (h2 : Ev tb cs (Is (cD K (seqD b2 es)))) :
    EvI (iZipM K b1 b2 (tCons ta (tCons tb tNil))) cs (min ds.length es.length) (fun i c => ∃ d e, ds[i]? = some d ∧ es[i]? = some e ∧ c = cD K (.tuple [d, e])) := fun B0 F0 ts us σ H hl S Q q =>
  h1 B0 F0 ts us σ H hl S _ fun c1 x H1 r1 S1 => h2 B0 F0 (c1 :: ts) (some x :: us) σ H1 (congrArg (· + 1) hl) S1 _ fun c2 y H2 r2 S2 => by
    subst r1 r2
    obtain ⟨B, s0, hd, sH, S3⟩ := Sim.baseD (K := K) (ds := [seqD b2 es, seqD b1 ds]) (vs := [y, x]) S2 rfl
    cases hd with
    | cons hd2 hr =>
      cases hr with
      | cons hd1 _ =>
        obtain ⟨a, xs, rfl, hs, ha⟩ := sq_of_dp hd1
        obtain ⟨a', ys, rfl, hs', ha'⟩ := sq_of_dp hd2
        refine ⟨a, a', xs, ys, rfl, Sq.same sH hs, Sq.same sH hs', ?_⟩
        have w : Walk (ItzM K b1 b2 a a') (min ds.length es.length) (fun H => Sq K b1 H a xs ∧ Sq K b2 H a' ys) (YPair (fun i => xs[i]?) (fun i => ys[i]?)) := by
          rw [← dpAll_len ha, ← dpAll_len ha']
          exact walk_zipM
        exact q _ B H2 _ _ w s0 S3 (fun cs' σ' H' S' => ⟨Sq.same S'.sub hs, Sq.same S'.sub hs'⟩) fun i cs' σ' H' x H2 hi S' ⟨T, u, v, ex, hT, eH, e1, e2⟩ => by
          subst ex eH
          obtain ⟨d, e3, e4⟩ := dpAll_get ha e1
          obtain ⟨d', e5, e6⟩ := dpAll_get ha' e2
          exact ⟨_, ⟨d, d', e3, e5, rfl⟩, S'.addNew hT (.cons e4 (.cons e6 .nil))⟩
/-- reversed(..) -/
theorem ei_rev {b : Bool} {ds : List PyData} (h : Ev te cs (Is (cD K (seqD b ds)))) : EvI (iRevA K te) cs ds.length (itemIs K ds.reverse) := fun B0 F0 ts us σ H hl S Q q =>
  h B0 F0 ts us σ H hl S _ fun c x H1 r S1 => by
    subst r
    obtain ⟨B, s0, hd, sH, S2⟩ := Sim.baseD (K := K) (ds := [seqD b ds]) (vs := [x]) S1 rfl
    cases hd with
    | cons hd _ =>
      cases b with
      | true =>
        obtain ⟨a, xs, rfl, hs, ha⟩ := dp_tup (show Dp K B x (.tuple ds) from hd)
        refine ⟨a, xs, rfl, .inr ⟨sqT_same sH hs, ?_⟩⟩
        have w : Walk (ItvT K a xs.length) ds.length (fun H => SqT K H a xs) (fun i H x H' => H' = H ∧ xs[xs.length - 1 - i]? = some x) := by
          rw [← dpAll_len ha]
          exact ⟨fun i _ hi q => ⟨hi, xs, xs[xs.length - 1 - i]'(by omega), q, List.getElem?_eq_getElem (by omega)⟩, fun _ _ => Nat.le_refl _, fun _ _ _ _ _ q y => ⟨y.1, y.2 xs q⟩⟩
        exact q _ B H1 _ _ w s0 S2 (fun cs' σ' H' S' => sqT_same S'.sub hs) fun i cs' σ' H' x H2 hi S' ⟨eH, ex⟩ => by
          subst eH
          obtain ⟨d, e1, e2⟩ := dpAll_get ha ex
          rw [dpAll_len ha] at e1
          exact ⟨_, ⟨d, by rw [List.getElem?_reverse hi]; exact e1, rfl⟩, S'.add e2⟩
      | false =>
        obtain ⟨a, xs, rfl, hs, ha⟩ := dp_lst (show Dp K B x (.list ds) from hd)
        refine ⟨a, xs, rfl, .inl ⟨sH.seq hs, ?_⟩⟩
        have w : Walk (Itv K a xs.length) ds.length (fun H => SqL K H a xs) (fun i H x H' => H' = H ∧ xs[xs.length - 1 - i]? = some x) := by
          rw [← dpAll_len ha]
          exact walk_rev
        exact q _ B H1 _ _ w s0 S2 (fun cs' σ' H' S' => S'.sub.seq hs) fun i cs' σ' H' x H2 hi S' ⟨eH, ex⟩ => by
          subst eH
          obtain ⟨d, e1, e2⟩ := dpAll_get ha ex
          rw [dpAll_len ha] at e1
          exact ⟨_, ⟨d, by rw [List.getElem?_reverse hi]; exact e1, rfl⟩, S'.add e2⟩
def TgOk (g : TG) (js : List Nat) (c : Cell) (cs cs2 : List Cell) : Prop := ∀ (B0 F0 : Hp) (ts : List Cell) (us σ : List (Option V)) (H : Hp) (x : V), us.length = ts.length → Sim B0 F0 (c :: (ts ++ cs)) (some x :: (us ++ σ)) H →
  ∀ Q : L2.St → Hp → Prop, (∀ σ2 H', σ2.length = σ.length → (∀ k, k ∉ js → σ2[k]? = σ[k]?) → Sim B0 F0 (ts ++ cs2) (us ++ σ2) H' → Q σ2 H') → g x σ H Q
def TgsOk (g : TGs) (js : List Nat) (ds : List PyData) (K : PySem.W.Frag) (cs cs2 : List Cell) : Prop := ∀ (B0 F0 : Hp) (ts : List Cell) (us σ : List (Option V)) (H : Hp) (vs : List V), us.length = ts.length → vs.length = ds.length →
  Sim B0 F0 (ds.map (cD K) ++ (ts ++ cs)) (vs.map some ++ (us ++ σ)) H →
  ∀ Q : L2.St → Hp → Prop, (∀ σ2 H', σ2.length = σ.length → (∀ k, k ∉ js → σ2[k]? = σ[k]?) → Sim B0 F0 (ts ++ cs2) (us ++ σ2) H' → Q σ2 H') → g vs σ H Q
theorem set_app {α : Type} {ts cs : List α} {i : Nat} {x : α} {n : Nat} (hn : n = ts.length) : (ts ++ cs).set (n + i) x = ts ++ cs.set i x := by
  subst hn
  rw [List.set_append_right _ _ (Nat.le_add_right _ _)]
  congr 2
  omega
theorem Sim.setAt {B0 F0 H : Hp} {ts : List Cell} {us σ : List (Option V)} {c : Cell} {v : Option V} (i : Nat) (hl : us.length = ts.length) (S : Sim B0 F0 (c :: (ts ++ cs)) (v :: (us ++ σ)) H) : Sim B0 F0 (ts ++ cs.set i c) (us ++ σ.set i v) H := by
  have q := S.set (ts.length + i)
  rw [set_app rfl, set_app hl.symm] at q
  exact q
theorem tg_name {j : Nat} {c : Cell} : TgOk (gName j) [j] c cs (cs.set j c) := fun B0 F0 ts us σ H x hl S Q q =>
  q _ H (List.length_set ..) (fun k hk => by
    rw [List.getElem?_set_ne]
    intro e
    exact hk (by simp [e])) (S.setAt j hl)
theorem tgs_nil : TgsOk gNil [] [] K cs cs := fun B0 F0 ts us σ H vs hl hv S Q q => by
  have e : vs = [] := List.length_eq_zero_iff.mp hv
  subst e
  exact ⟨rfl, q σ H rfl (fun _ _ => rfl) S⟩
theorem tgs_cons {g : TG} {gs : TGs} {js ks : List Nat} {ds : List PyData} {cs1 cs2 : List Cell} (h1 : TgOk g js (cD K d) cs cs1) (h2 : TgsOk gs ks ds K cs1 cs2) : TgsOk (gCons g gs) (js ++ ks) (d :: ds) K cs cs2 := fun B0 F0 ts us σ H vs hl hv S Q q => by
  cases vs with
  | nil => cases hv
  | cons v vs =>
    have hv' : vs.length = ds.length := Nat.succ.inj hv
    refine ⟨v, vs, rfl, ?_⟩
    refine h1 B0 F0 (ds.map (cD K) ++ ts) (vs.map some ++ us) σ H v (by rw [List.length_append, List.length_append, List.length_map, List.length_map, hl, hv']) (by rw [List.append_assoc, List.append_assoc]; exact S) _ fun σ1 H1 l1 n1 S1 => ?_
    rw [List.append_assoc, List.append_assoc] at S1
    refine h2 B0 F0 ts us σ1 H1 vs hl hv' S1 Q fun σ2 H2 l2 n2 S2 => q σ2 H2 (l2.trans l1) (fun k hk => ?_) S2
    rw [List.mem_append] at hk
    exact (n2 k fun m => hk (.inr m)).trans (n1 k fun m => hk (.inl m))
theorem tg_tup {n : Nat} {gs : TGs} {js : List Nat} {ds : List PyData} {cs2 : List Cell} (hn : ds.length = n) (h : TgsOk gs js ds K cs cs2) : TgOk (gTup K n gs) js (cD K (.tuple ds)) cs cs2 := fun B0 F0 ts us σ H x hl S Q q => by
  obtain ⟨B, F, fp, h1, h2, h3, ⟨f1, f2, ef, ⟨e1, y, ey, r⟩, r2⟩, h5, h6⟩ := S
  cases ey
  subst e1
  rw [List.nil_append] at ef
  subst ef
  obtain ⟨a, xs, rfl, hs, ha⟩ := dp_tup r
  have lx := dpAll_len ha
  refine ⟨a, xs, rfl, ?_, by rw [lx]; exact hn, ?_⟩
  · rw [h1]
    exact sqT_same (pl_same h2) hs
  · exact h B0 F0 ts us σ H xs hl lx ⟨B, F, fp, h1, h2, h3, (ds_holds ha).app r2, h5, h6⟩ Q q
theorem tg_pair {a b : Nat} {d1 d2 : PyData} : TgOk (gTup K 2 (gCons (gName a) (gCons (gName b) gNil))) [a, b] (cD K (.tuple [d1, d2])) cs ((cs.set a (cD K d1)).set b (cD K d2)) := tg_tup rfl (tgs_cons tg_name (tgs_cons tg_name tgs_nil))
theorem Holds.weak {B F : Hp} : ∀ {cs cs' : List Cell} {σ σ' : List (Option V)} {fp : List Addr}, cs'.length = cs.length → σ'.length = σ.length → (∀ k : Nat, cs'[k]? = some cNo ∨ (cs'[k]? = cs[k]? ∧ σ'[k]? = σ[k]?)) → Holds B F cs σ fp → ∃ fp', fp'.Sublist fp ∧ Holds B F cs' σ' fp'
  | [], [], [], [], fp, _, _, _, h => ⟨fp, List.Sublist.refl _, h⟩
  | c :: cs, c' :: cs', v :: σ, v' :: σ', fp, h1, h2, hk, ⟨f1, f2, ef, hc, hr⟩ => by
    obtain ⟨fp', s, r⟩ := Holds.weak (cs' := cs') (σ' := σ') (Nat.succ.inj h1) (Nat.succ.inj h2) (fun k => by
      have := hk (k + 1)
      simpa using this) hr
    rcases hk 0 with e | ⟨e1, e2⟩
    · have e' : c' = cNo := by simpa using e
      subst e'
      exact ⟨[] ++ fp', by rw [ef]; exact s.trans (List.sublist_append_right _ _), .cons rfl r⟩
    · have e1' : c' = c := by simpa using e1
      have e2' : v' = v := by simpa using e2
      subst e1' e2'
      exact ⟨f1 ++ fp', by rw [ef]; exact s.append_left _, .cons hc r⟩
  | [], [], _ :: _, _, _, _, _, _, h => h.elim
  | _ :: _, _, [], _, _, _, _, _, h => h.elim
  | [], _ :: _, _, _, _, h, _, _, _ => by cases h
  | _ :: _, [], _, _, _, h, _, _, _ => by cases h
  | _, _, [], _ :: _, _, _, h, _, _ => by cases h
  | _, _, _ :: _, [], _, _, h, _, _ => by cases h
theorem Sim.weak {B0 F0 H : Hp} {cs' : List Cell} {σ σ' : List (Option V)} (S : Sim B0 F0 cs σ H) (h1 : cs'.length = cs.length) (h2 : σ'.length = σ.length) (h : ∀ k : Nat, cs'[k]? = some cNo ∨ (cs'[k]? = cs[k]? ∧ σ'[k]? = σ[k]?)) : Sim B0 F0 cs' σ' H := by
  obtain ⟨B, F, fp, q1, q2, q3, q4, q5, q6⟩ := S
  obtain ⟨fp', s, r⟩ := Holds.weak h1 h2 h q4
  exact ⟨B, F, fp', q1, q2, q3, r, q5.sublist s, fun a o e => ⟨(q6 a o e).1, fun m => (q6 a o e).2 (s.subset m)⟩⟩
theorem Sim.weakAt {B0 F0 H : Hp} {ts cs' : List Cell} {us σ σ' : List (Option V)} (hl : us.length = ts.length) (S : Sim B0 F0 (ts ++ cs) (us ++ σ) H) (h1 : cs'.length = cs.length) (h2 : σ'.length = σ.length) (h : ∀ k : Nat, cs'[k]? = some cNo ∨ (cs'[k]? = cs[k]? ∧ σ'[k]? = σ[k]?)) : Sim B0 F0 (ts ++ cs') (us ++ σ') H := by
  refine S.weak (by simp [h1]) (by simp [h2]) fun k => ?_
  by_cases hk : k < ts.length
  · right
    rw [List.getElem?_append_left hk, List.getElem?_append_left hk, List.getElem?_append_left (by omega), List.getElem?_append_left (by omega)]
    exact ⟨rfl, rfl⟩
  · rw [List.getElem?_append_right (by omega), List.getElem?_append_right (by omega), List.getElem?_append_right (by omega), List.getElem?_append_right (by omega), hl]
    exact h _
theorem wipe_get {σ : L2.St} {k : Nat} : ∀ {vs : List Nat}, k ∉ vs → (wipe σ vs)[k]? = σ[k]?
  | [], _ => rfl
  | v :: vs, h => by
    unfold wipe
    rw [List.getElem?_set_ne fun e => h (by simp [e])]
    exact wipe_get fun m => h (List.mem_cons_of_mem _ m)
theorem wipe_in {σ : L2.St} {k : Nat} : ∀ {vs : List Nat}, k ∈ vs → k < σ.length → (wipe σ vs)[k]? = some none
  | v :: vs, h, hk => by
    unfold wipe
    by_cases e : v = k
    · subst e
      rw [List.getElem?_set_self (by rw [wipe_length]; exact hk)]
    · rw [List.getElem?_set_ne e]
      rcases List.mem_cons.mp h with z | z
      · exact absurd z.symm e
      · exact wipe_in z hk
theorem wipe_ext {σ σ2 : L2.St} {vs js : List Nat} (hj : ∀ j ∈ js, j ∈ vs) (hl : σ2.length = σ.length) (h : ∀ k, k ∉ js → σ2[k]? = (wipe σ vs)[k]?) : wipe σ2 vs = wipe σ vs := by
  refine List.ext_getElem? fun k => ?_
  by_cases hk : k ∈ vs
  · by_cases hi : k < σ.length
    · rw [wipe_in hk (by omega), wipe_in hk hi]
    · rw [List.getElem?_eq_none (by rw [wipe_length]; omega), List.getElem?_eq_none (by rw [wipe_length]; omega)]
  · rw [wipe_get hk, h k fun m => hk (hj k m)]
theorem ev_lcN {wi : TI} {g : TG} {tq : TT} {vs js : List Nat} {n : Nat} {Rc : Nat → Cell → Prop} (hi : EvI wi cs n Rc) (hv : ∀ k ∈ vs, cs[k]? = some cNo) (hj : ∀ j ∈ js, j ∈ vs) (Pv : Nat → List PyData → Prop) (h0 : Pv 0 [])
    (hz : ∀ i acc, i < n → Pv i acc → acc.length < 100000)
    (hs : ∀ i c acc, i < n → Rc i c → Pv i acc → ∃ (cs2 : List Cell) (W : Bool → Prop), TgOk g js c cs cs2 ∧ cs2.length = cs.length ∧ (∀ k, k ∉ vs → cs2[k]? = cs[k]?) ∧ EvT tq cs2 W ∧ (W true → Ev te cs2 (isD K (fun d => Pv (i + 1) (acc ++ [d])))) ∧ (W false → Pv (i + 1) acc)) :
    Ev (tLc wi g tq te vs) cs (fun c => ∃ ds, isO K ds c ∧ Pv n ds) := fun B0 F0 ts us σ H hl S Q q =>
  hi B0 F0 ts us σ H hl S _ fun J B1 H1 G Y w sB S1 hG hY D hD => by
    have hlen : σ.length = cs.length := by
      have := S1.len
      simp only [List.length_append] at this
      omega
    refine lc_it w (fun i H => ∃ acc, Pv i acc ∧ Sim B1 F0 (cOwn K D acc :: (ts ++ cs)) (some (.ref D) :: (us ++ σ)) H) ⟨[], h0, Sim.newOwn (ts := []) (us := []) S1 rfl hD fun _ _ _ _ => .nil⟩ (fun i H _ ⟨acc, _, S'⟩ => hG _ _ _ S') ?_ ?_
    · intro i x H2 H3 hi' ⟨acc, pa, S2⟩ y
      obtain ⟨c, rc, S3⟩ := hY i _ _ H2 x H3 hi' S2 y
      obtain ⟨cs2, W, htg, l2, n2, htt, hte, hno⟩ := hs i c acc hi' rc pa
      have S4 : Sim B1 F0 (c :: ((cOwn K D acc :: ts) ++ cs)) (some x :: ((some (.ref D) :: us) ++ wipe σ vs)) H3 := by
        refine Sim.weakAt (ts := c :: cOwn K D acc :: ts) (us := some x :: some (.ref D) :: us) (congrArg (· + 2) hl) S3 rfl (wipe_length σ vs) fun k => ?_
        by_cases hk : k ∈ vs
        · exact .inl (hv k hk)
        · exact .inr ⟨rfl, wipe_get hk⟩
      refine htg B1 F0 (cOwn K D acc :: ts) (some (.ref D) :: us) (wipe σ vs) H3 x (congrArg (· + 1) hl) S4 _ fun σ2 H4 m1 m2 S5 => ?_
      have m1' : σ2.length = σ.length := m1.trans (wipe_length σ vs)
      refine ⟨wipe_ext hj m1' m2, ?_⟩
      have back : ∀ {c : Cell} {H : Hp}, Sim B1 F0 (c :: (ts ++ cs2)) (some (.ref D) :: (us ++ σ2)) H → Sim B1 F0 (c :: (ts ++ cs)) (some (.ref D) :: (us ++ σ)) H := fun {c H} S =>
        Sim.weakAt (ts := c :: ts) (us := some (.ref D) :: us) (congrArg (· + 1) hl) S l2.symm m1'.symm fun k => by
          by_cases hk : k ∈ vs
          · exact .inl (hv k hk)
          · exact .inr ⟨(n2 k hk).symm, ((m2 k fun m => hk (hj k m)).trans (wipe_get hk)).symm⟩
      refine htt B1 F0 (cOwn K D acc :: ts) (some (.ref D) :: us) σ2 H4 (congrArg (· + 1) hl) S5 _ fun b H5 hb S6 => ?_
      cases b with
      | false => exact ⟨acc, hno hb, back S6⟩
      | true =>
        refine hte hb B1 F0 (cOwn K D acc :: ts) (some (.ref D) :: us) σ2 H5 (congrArg (· + 1) hl) S6 _ fun c' v H6 ⟨d, ed, pd⟩ S7 => ?_
        subst ed
        obtain ⟨_, xs, e1, e2⟩ := S7.ownAt (i := 1) (K := K) (l := D) (ds := acc) rfl
        refine ⟨xs, e1, ?_, acc ++ [d], pd, back ?_⟩
        · rw [dpAll_len e2]
          exact sz_lt (hz i acc hi' pa)
        · refine Sim.mutate (ts := [cD K d]) (us := [some v]) (i := 0) (cs := cOwn K D acc :: (ts ++ cs2)) (σ := some (.ref D) :: (us ++ σ2)) S7 rfl rfl fun B F f1 ws h7 h8 h9 => ?_
          rw [e1] at h9
          cases h9
          exact dpAll_app h8 (by
            obtain ⟨g1, g2, _, ⟨_, z, ez, rz⟩, _⟩ := h7
            cases ez
            exact rz)
    · intro H2 ⟨acc, pa, S2⟩
      exact q _ _ _ ⟨acc, ⟨D, rfl⟩, pa⟩ (S2.root sB)
/-- over data told by a list of things -/
theorem ev_lcF {α : Type} {wi : TI} {g : TG} {tq : TT} {vs js : List Nat} {n : Nat} {Rc : Nat → Cell → Prop} (xs : List α) (enc : α → PyData) (p : α → Bool) (f : α → PyData) (hi : EvI wi cs n Rc) (hn : n = xs.length) (hR : ∀ i c, i < n → Rc i c → ∃ x, xs[i]? = some x ∧ c = cD K (enc x))
    (hv : ∀ k ∈ vs, cs[k]? = some cNo) (hj : ∀ j ∈ js, j ∈ vs) (hz : xs.length ≤ 99999) (cs2 : α → List Cell) (htg : ∀ x ∈ xs, TgOk g js (cD K (enc x)) cs (cs2 x)) (hl2 : ∀ x ∈ xs, (cs2 x).length = cs.length) (hk : ∀ x ∈ xs, ∀ k, k ∉ vs → (cs2 x)[k]? = cs[k]?)
    (ht : ∀ x ∈ xs, EvT tq (cs2 x) (fun b => b = p x)) (he : ∀ x ∈ xs, p x = true → Ev te (cs2 x) (Is (cD K (f x)))) : Ev (tLc wi g tq te vs) cs (isO K ((xs.filter p).map f)) := by
  subst hn
  refine (ev_lcN (K := K) hi hv hj (fun i acc => acc = ((xs.take i).filter p).map f) (by rw [List.take_zero]; rfl) ?_ ?_).imp fun c ⟨ds, h, e⟩ => ?_
  · intro i acc hi' e
    subst e
    rw [List.length_map]
    exact Nat.lt_of_le_of_lt (List.length_filter_le _ _) (by rw [List.length_take]; omega)
  · intro i c acc hi' rc e
    subst e
    obtain ⟨x, ex, ec⟩ := hR i c hi' rc
    subst ec
    have hx : x ∈ xs := List.mem_of_getElem? ex
    have et : xs.take (i + 1) = xs.take i ++ [x] := by rw [List.take_succ, ex]; rfl
    refine ⟨cs2 x, fun b => b = p x, htg x hx, hl2 x hx, hk x hx, ht x hx, fun hp => ?_, fun hp => ?_⟩
    · refine (he x hx hp.symm).imp fun c' r => ⟨f x, r, ?_⟩
      rw [et, List.filter_append, List.map_append, List.filter_cons, if_pos hp.symm]
      rfl
    · show ((xs.take i).filter p).map f = _
      rw [et, List.filter_append, List.map_append, List.filter_cons, if_neg (by rw [← hp]; decide)]
      simp
  · rw [List.take_length] at e
    subst e
    exact h
theorem et_yes : EvT tYes cs (fun b => b = true) := fun B0 F0 ts us σ H hl S Q q => q true H rfl S
end
end Z
namespace Z
open PySem L2
/-- from the cells cs on, T is to be shown -/
def Go (B0 F0 : Hp) (cs : List Cell) (T : L2.St → Hp → Prop) : Prop := ∀ σ H, Sim B0 F0 cs σ H → T σ H
/-- some cells of which M holds -/
def Mid (B0 F0 : Hp) (M : List Cell → Prop) : L2.St → Hp → Prop := fun σ H => ∃ cs, M cs ∧ Sim B0 F0 cs σ H
/-- the value in front may be given back -/
def RtOk (B0 F0 : Hp) (cs : List Cell) (q : VK) : Prop := ∀ σ H v, Sim B0 F0 cs (some v :: σ) H → q v H
section
variable {K : PySem.W.Frag} {B0 B1 F0 : Hp} {cs : List Cell} {te ta tb tc : TE} {R Ra Rb : Cell → Prop} {d e : PyData} {tt : TT} {P P' : Bool → Prop} {D : Ends} {t u : TS} {M : List Cell → Prop}
theorem RtOk.up {q : VK} (h : RtOk B0 F0 cs q) (e : Same B0 B1) : RtOk B1 F0 cs q := fun σ H v S => h σ H v (S.root e)
theorem Go.up {T : L2.St → Hp → Prop} (h : Go B0 F0 cs T) (e : Same B0 B1) : Go B1 F0 cs T := fun σ H S => h σ H (S.root e)
theorem go_seq (h : Go B0 F0 cs (t { D with nx := u D })) : Go B0 F0 cs (tSeq t u D) := h
theorem go_nx (h : Go B0 F0 cs D.nx) : Go B0 F0 cs (tNext D) := h
theorem go_mid (h : M cs) : Go B0 F0 cs (Mid B0 F0 M) := fun σ H S => ⟨cs, h, S⟩
/-- a word between two statements -/
theorem go_cut (M : List Cell → Prop) (h : Go B0 F0 cs (t { D with nx := Mid B0 F0 M })) (k : ∀ cs', M cs' → Go B0 F0 cs' (u D)) : Go B0 F0 cs (Evl.tCut t u D) := fun σ H S =>
  ⟨Mid B0 F0 M, h σ H S, fun σ' H' ⟨cs', m, S'⟩ => k cs' m σ' H' S'⟩
theorem go_asg {i : Nat} (h : Ev te cs R) (k : ∀ c, R c → Go B0 F0 (cs.set i c) D.nx) : Go B0 F0 cs (tAsg te (gName i) D) := fun σ H S =>
  h B0 F0 [] [] σ H rfl S _ fun c v H' r S' => k c r _ _ (S'.set i)
theorem go_asgX {i : Nat} {Rx : Cell → List Cell → Prop} (h : EvX te cs Rx) (k : ∀ c cs', Rx c cs' → Go B0 F0 (cs'.set i c) D.nx) : Go B0 F0 cs (tAsg te (gName i) D) := fun σ H S =>
  h B0 F0 [] [] σ H rfl S _ fun c v cs' H' r S' => k c cs' r _ _ (S'.set i)
/-- x = e, e one value -/
theorem go_set {i : Nat} {c : Cell} (h : Ev te cs (Is c)) (k : Go B0 F0 (cs.set i c) D.nx) : Go B0 F0 cs (tAsg te (gName i) D) := go_asg h fun c' r => by
  subst r
  exact k
/-- x = a new list -/
theorem go_setO {i : Nat} {ds : List PyData} (h : Ev te cs (isO K ds)) (k : ∀ l, Go B0 F0 (cs.set i (cOwn K l ds)) D.nx) : Go B0 F0 cs (tAsg te (gName i) D) := go_asg h fun c' ⟨l, r⟩ => by
  subst r
  exact k l
theorem go_asgG {g : TG} {js : List Nat} {c : Cell} {cs2 : List Cell} (h : Ev te cs (Is c)) (hg : TgOk g js c cs cs2) (k : Go B0 F0 cs2 D.nx) : Go B0 F0 cs (tAsg te g D) := fun σ H S =>
  h B0 F0 [] [] σ H rfl S _ fun c' v H' r S' => by
    subst r
    exact hg B0 F0 [] [] σ H' v rfl S' _ fun σ2 H2 _ _ S2 => k σ2 H2 S2
theorem go_drop (h : Ev te cs R) (k : Go B0 F0 cs D.nx) : Go B0 F0 cs (tDrop te D) := fun σ H S =>
  h B0 F0 [] [] σ H rfl S _ fun c v H' r S' => k _ _ S'.pop
theorem go_dropX {Rx : Cell → List Cell → Prop} (h : EvX te cs Rx) (k : ∀ c cs', Rx c cs' → Go B0 F0 cs' D.nx) : Go B0 F0 cs (tDrop te D) := fun σ H S =>
  h B0 F0 [] [] σ H rfl S _ fun c v cs' H' r S' => k c cs' r _ _ S'.pop
theorem go_par {i j : Nat} {c1 c2 : Cell} {ta : TA} (h : EvA ta cs (fun as => as = [c1, c2])) (k : Go B0 F0 ((cs.set i c1).set j c2) D.nx) : Go B0 F0 cs (tPar i j ta D) := fun σ H S =>
  h B0 F0 [] [] σ H rfl S _ fun as vs H' r hv S' => by
    subst r
    match vs, hv with
    | [v, w], _ =>
      have S2 : Sim B0 F0 (c1 :: c2 :: cs) (some v :: some w :: σ) H' := S'
      exact ⟨v, w, rfl, k _ _ ((S2.set (i + 1)).set j)⟩
theorem go_aug {i : Nat} {f : Int → Int → Int} {a b : Int} (hx : cs[i]? = some (cI K a)) (h : Ev te cs (Is (cI K b))) (k : Go B0 F0 (cs.set i (cI K (f a b))) D.nx) : Go B0 F0 cs (tAug i te (ipI f) D) := fun σ H S => by
  obtain ⟨w, ew, S1⟩ := S.dup cD_pure hx
  obtain ⟨B, F, fp, h1, h2, h3, ⟨f1, f2, ef, ⟨_, x, ex, r⟩, _⟩, _⟩ := S1
  subst ex
  have ev := dp_int r
  subst ev
  refine ⟨_, ew, h B0 F0 [] [] σ H rfl S _ fun c v H' r S' => ?_⟩
  subst r
  exact ⟨a, b, rfl, dp_int S'.dp, k _ _ ((S'.pop.pushD fun _ => .int _).set i)⟩
theorem go_if {b : Bool} (h : EvT tt cs (fun x => x = b)) (h1 : b = true → Go B0 F0 cs (t D)) (h2 : b = false → Go B0 F0 cs (u D)) : Go B0 F0 cs (tIfS tt t u D) := fun σ H S =>
  h B0 F0 [] [] σ H rfl S _ fun c H' r S' => by
    subst r
    cases c with
    | true => exact h1 rfl σ H' S'
    | false => exact h2 rfl σ H' S'
theorem go_ifN (h : EvT tt cs P) (h1 : P true → Go B0 F0 cs (t D)) (h2 : P false → Go B0 F0 cs (u D)) : Go B0 F0 cs (tIfS tt t u D) := fun σ H S =>
  h B0 F0 [] [] σ H rfl S _ fun c H' r S' => by
    cases c with
    | true => exact h1 r σ H' S'
    | false => exact h2 r σ H' S'
/-- a test that is never met -/
theorem go_ifF (h : EvT tt cs (fun x => x = false)) (h2 : Go B0 F0 cs (u D)) : Go B0 F0 cs (tIfS tt t u D) := go_if h (fun z => nomatch z) fun _ => h2
theorem go_ifT (h : EvT tt cs (fun x => x = true)) (h1 : Go B0 F0 cs (t D)) : Go B0 F0 cs (tIfS tt t u D) := go_if h (fun _ => h1) fun z => nomatch z
theorem go_ret (h : Ev te cs R) (k : ∀ c, R c → RtOk B0 F0 (c :: cs) D.rt) : Go B0 F0 cs (tRet te D) := fun σ H S =>
  h B0 F0 [] [] σ H rfl S _ fun c v H' r S' => k c r σ H' v S'
theorem go_retI {c : Cell} (h : Ev te cs (Is c)) (k : RtOk B0 F0 (c :: cs) D.rt) : Go B0 F0 cs (tRet te D) := go_ret h fun c' r => by
  subst r
  exact k
theorem go_retN (k : RtOk B0 F0 (cN K :: cs) D.rt) : Go B0 F0 cs (tRetN D) := fun σ H S => k σ H .non (S.pushD fun _ => .non)
theorem go_brk (k : Go B0 F0 cs D.bk) : Go B0 F0 cs (tBreak D) := k
theorem go_cont (k : Go B0 F0 cs D.ct) : Go B0 F0 cs (tCont D) := k
/-- a list of one's own in a slot becomes data -/
theorem go_freeze {i : Nat} {l : Addr} {ds : List PyData} {T : L2.St → Hp → Prop} (hi : cs[i]? = some (cOwn K l ds)) (k : Go B0 F0 (cs.set i (cD K (.list ds))) T) : Go B0 F0 cs T := fun σ H S => by
  refine k σ H ?_
  obtain ⟨B, F, fp, h1, h2, h3, h4, h5, h6⟩ := S
  obtain ⟨w, pre, mid, post, e1, e2, ok, hk⟩ := Holds.get h4 hi
  have S2 : Sim B0 F0 (cOwn K l ds :: cs.set i cNo) (w :: σ.set i w) H := by
    refine ⟨B, F, mid ++ (pre ++ [] ++ post), h1, h2, h3, .cons ok (hk cNo w [] rfl), ?_, fun a o e => ⟨(h6 a o e).1, fun m => (h6 a o e).2 ?_⟩⟩
    · have p : (mid ++ (pre ++ [] ++ post)).Perm (pre ++ mid ++ post) := by
        rw [List.append_nil, ← List.append_assoc]
        exact List.Perm.append_right _ List.perm_append_comm
      rw [p.nodup_iff, ← e2]
      exact h5
    · rw [e2]
      simp only [List.append_nil, List.mem_append] at m ⊢
      rcases m with m | m | m
      · exact .inl (.inr m)
      · exact .inl (.inl m)
      · exact .inr m
  have S3 := S2.freeze.set i
  rw [List.set_set, List.set_set] at S3
  have hs : i < σ.length := (List.getElem?_eq_some_iff.mp e1).1
  have e0 : σ[i] = w := by
    have q := e1
    rw [List.getElem?_eq_getElem hs] at q
    exact Option.some.inj q
  rw [← e0, List.set_getElem_self] at S3
  exact S3
theorem go_forget (i : Nat) {T : L2.St → Hp → Prop} (k : Go B0 F0 (cs.set i cNo) T) : Go B0 F0 cs T := fun σ H S => by
  refine k σ H (S.weak (List.length_set ..) rfl fun j => ?_)
  by_cases e : i = j
  · subst e
    by_cases h : i < cs.length
    · exact .inl (List.getElem?_set_self h)
    · refine .inr ⟨?_, rfl⟩
      rw [List.set_eq_of_length_le (by omega)]
  · exact .inr ⟨List.getElem?_set_ne e, rfl⟩
theorem go_append {i : Nat} {l : Addr} {ds : List PyData} (hi : cs[i]? = some (cOwn K l ds)) (h : Ev te cs (Is (cD K d))) (hz : ds.length < 100000) (k : Go B0 F0 (cs.set i (cOwn K l (ds ++ [d]))) D.nx) :
    Go B0 F0 cs (tDrop (tBM K "list" rAppend (tVar i) (tCons te tNil)) D) := fun σ H S => by
    unfold tDrop tBM
    refine ev_varO hi B0 F0 [] [] σ H rfl S _ fun c x H1 r S1 => ?_
    subst r
    have ex := S1.pin (i := 0) cV_pin rfl
    cases (Option.some.inj (Option.some.inj ex))
    obtain ⟨_, vs, q1, q2⟩ := S1.pop.ownAt hi
    refine ⟨.inl ⟨rfl, _, SqL.of q1⟩, h B0 F0 [cV (.ref l)] [some (.ref l)] σ H1 rfl S1 _ fun c2 v H2 r2 S2 => ?_⟩
    subst r2
    have S3 : Sim B0 F0 (cD K d :: cs) (some v :: σ) H2 := S2.swap.pop
    obtain ⟨_, ws, q3, q4⟩ := S3.pop.ownAt hi
    refine ⟨l, ws, v, rfl, rfl, q3, by rw [dpAll_len q4]; exact sz_lt hz, k _ _ ?_⟩
    refine Sim.mutate (ts := [cD K d]) (us := [some v]) S3 rfl hi fun B F f1 xs h7 h8 h9 => ?_
    rw [q3] at h9
    cases h9
    obtain ⟨g1, g2, _, ⟨_, z, ez, rz⟩, _⟩ := h7
    cases ez
    exact dpAll_app h8 rz
theorem go_appendN {i : Nat} {l : Addr} {ds : List PyData} {Q : PyData → Prop} (hi : cs[i]? = some (cOwn K l ds)) (h : Ev te cs (isD K Q)) (hz : ds.length < 100000) (k : ∀ d, Q d → Go B0 F0 (cs.set i (cOwn K l (ds ++ [d]))) D.nx) :
    Go B0 F0 cs (tDrop (tBM K "list" rAppend (tVar i) (tCons te tNil)) D) := fun σ H S => by
    unfold tDrop tBM
    refine ev_varO hi B0 F0 [] [] σ H rfl S _ fun c x H1 r S1 => ?_
    subst r
    have ex := S1.pin (i := 0) cV_pin rfl
    cases (Option.some.inj (Option.some.inj ex))
    obtain ⟨_, vs, q1, q2⟩ := S1.pop.ownAt hi
    refine ⟨.inl ⟨rfl, _, SqL.of q1⟩, h B0 F0 [cV (.ref l)] [some (.ref l)] σ H1 rfl S1 _ fun c2 v H2 ⟨d, r2, qd⟩ S2 => ?_⟩
    subst r2
    have S3 : Sim B0 F0 (cD K d :: cs) (some v :: σ) H2 := S2.swap.pop
    obtain ⟨_, ws, q3, q4⟩ := S3.pop.ownAt hi
    refine ⟨l, ws, v, rfl, rfl, q3, by rw [dpAll_len q4]; exact sz_lt hz, k d qd _ _ ?_⟩
    refine Sim.mutate (ts := [cD K d]) (us := [some v]) S3 rfl hi fun B F f1 xs h7 h8 h9 => ?_
    rw [q3] at h9
    cases h9
    obtain ⟨g1, g2, _, ⟨_, z, ez, rz⟩, _⟩ := h7
    cases ez
    exact dpAll_app h8 rz
theorem ixN_nat {n i : Nat} (h : i < n) : ixN n (i : Int) = some i := by
  unfold ixN
  rw [if_pos (by omega), if_pos (by omega)]
  simp
/-- xs[j] = e -/
theorem go_store {i j : Nat} {l : Addr} {ds : List PyData} (hi : cs[i]? = some (cOwn K l ds)) (h : Ev te cs (Is (cD K d))) (hj : Ev tb cs (Is (cI K j))) (hlt : j < ds.length) (k : Go B0 F0 (cs.set i (cOwn K l (ds.set j d))) D.nx) :
    Go B0 F0 cs (tAsg te (gSub (tVar i) tb rSetL) D) := fun σ H S =>
  h B0 F0 [] [] σ H rfl S _ fun c1 v H1 r1 S1 => ev_varO hi B0 F0 [c1] [some v] σ H1 rfl S1 _ fun c2 o H2 r2 S2 => hj B0 F0 [c2, c1] [some o, some v] σ H2 rfl S2 _ fun c3 z H3 r3 S3 => by
    subst r1 r2 r3
    have ez := dp_int S3.dp
    have eo := S3.pin (i := 1) (cV_pin (x := V.ref l)) rfl
    cases (Option.some.inj (Option.some.inj eo))
    have S4 : Sim B0 F0 (cD K d :: cs) (some v :: σ) H3 := S3.pop.pop
    obtain ⟨_, ws, q3, q4⟩ := S4.pop.ownAt hi
    refine ⟨l, ws, j, j, rfl, ez, q3, ixN_nat (by rw [dpAll_len q4]; exact hlt), k _ _ ?_⟩
    refine Sim.mutate (ts := [cD K d]) (us := [some v]) S4 rfl hi fun B F f1 xs h7 h8 h9 => ?_
    rw [q3] at h9
    cases h9
    obtain ⟨g1, g2, _, ⟨_, z, ez, rz⟩, _⟩ := h7
    cases ez
    exact dpAll_set j h8 rz
/-- xs[j] += e, a list of ints -/
theorem go_storeAdd {i j : Nat} {l : Addr} {ds : List PyData} {f : Int → Int → Int} {a b : Int} (hi : cs[i]? = some (cOwn K l ds)) (hj : Ev tb cs (Is (cI K j))) (hlt : j < 100000) (ha : ds[j]? = some (.int a)) (h : Ev te cs (Is (cI K b)))
    (k : Go B0 F0 (cs.set i (cOwn K l (ds.set j (.int (f a b))))) D.nx) : Go B0 F0 cs (tAugS (tVar i) tb te (rGetL K) (ipI f) rSetL D) := fun σ H S =>
  ev_varO hi B0 F0 [] [] σ H rfl S _ fun c2 o H2 r2 S2 => hj B0 F0 [c2] [some o] σ H2 rfl S2 _ fun c3 z H3 r3 S3 => by
    subst r2 r3
    have ez := dp_int S3.dp
    have eo := S3.pin (i := 1) (cV_pin (x := V.ref l)) rfl
    cases (Option.some.inj (Option.some.inj eo))
    have S4 : Sim B0 F0 cs σ H3 := S3.pop.pop
    obtain ⟨_, ws, q3, q4⟩ := S4.ownAt hi
    have hw : j < ws.length := by
      rw [dpAll_len q4]
      exact (List.getElem?_eq_some_iff.mp ha).1
    obtain ⟨d, e1, e2⟩ := dpAll_get q4 (List.getElem?_eq_getElem hw)
    rw [ha] at e1
    cases e1
    have ew := dp_int e2
    refine ⟨l, ws, j, ws[j], rfl, ez, SqL.of q3, by omega, by omega, by rw [Int.toNat_natCast]; exact List.getElem?_eq_getElem hw, ?_⟩
    refine h B0 F0 [cI K j, cV (.ref l)] [some z, some (.ref l)] σ H3 rfl S3 _ fun c4 y H4 r4 S5 => ?_
    subst r4
    refine ⟨a, b, ew, dp_int S5.dp, ?_⟩
    have S6 : Sim B0 F0 cs σ H4 := Sim.pop (Sim.pop (Sim.pop S5))
    obtain ⟨_, xs, q5, q6⟩ := S6.ownAt hi
    refine ⟨l, xs, j, j, rfl, ez, q5, ixN_nat (by rw [dpAll_len q6]; exact (List.getElem?_eq_some_iff.mp ha).1), k _ _ ?_⟩
    refine Sim.mutate (ts := []) (us := []) S6 rfl hi fun B F f1 xs' h7 h8 h9 => ?_
    rw [q5] at h9
    cases h9
    exact dpAll_set j h8 (.int _)
/-- xs.pop() as a value -/
theorem ev_pop {i : Nat} {l : Addr} {ds : List PyData} (hi : cs[i]? = some (cOwn K l ds)) (hd : ds[ds.length - 1]? = some d) : EvX (tBM0 K "list" rPop (tVar i)) cs (fun c cs' => c = cD K d ∧ cs' = cs.set i (cOwn K l ds.dropLast)) := fun B0 F0 ts us σ H hl S Q q =>
  ev_varO hi B0 F0 ts us σ H hl S _ fun c x H1 r S1 => by
    subst r
    have ex := S1.pin (i := 0) cV_pin rfl
    cases (Option.some.inj (Option.some.inj ex))
    have hi' : (ts ++ cs)[ts.length + i]? = some (cOwn K l ds) := by rw [at_ts rfl]; exact hi
    obtain ⟨B, F, fp, h1, h2, h3, h4, h5, h6⟩ := id S1.pop
    obtain ⟨w, pre, mid, post, e1, e2, ⟨_, ew, vs, q1, q2⟩, hk⟩ := Holds.get h4 hi'
    have hv : vs.length - 1 < vs.length := by
      have := (List.getElem?_eq_some_iff.mp hd).1
      rw [dpAll_len q2]
      exact this
    obtain ⟨d', e3, e4⟩ := dpAll_get q2 (List.getElem?_eq_getElem hv)
    rw [dpAll_len q2, hd] at e3
    cases e3
    have qH : H1 l = some (.lst vs) := by rw [h1]; exact pl_F q1
    refine ⟨.inl ⟨rfl, _, SqL.of qH⟩, l, vs, vs[vs.length - 1], rfl, rfl, qH, List.getElem?_eq_getElem hv, q _ _ _ _ ⟨rfl, rfl⟩ ?_⟩
    have S2 : Sim B0 F0 (cD K d :: (ts ++ cs)) (some vs[vs.length - 1] :: (us ++ σ)) H1 := ⟨B, F, fp, h1, h2, h3, ⟨[], fp, rfl, ⟨rfl, _, rfl, e4⟩, h4⟩, h5, h6⟩
    have hi2 : (cD K d :: (ts ++ cs))[ts.length + i + 1]? = some (cOwn K l ds) := by rw [List.getElem?_cons_succ]; exact hi'
    have S3 := Sim.mutate (ts := []) (us := []) (ds' := ds.dropLast) (vs' := vs.dropLast) S2 rfl hi2 fun B F f1 xs h7 h8 h9 => by
      rw [qH] at h9
      cases h9
      rw [List.dropLast_eq_take, List.dropLast_eq_take, dpAll_len h8]
      exact dpAll_take _ h8
    rw [List.set_cons_succ, set_app rfl] at S3
    exact S3
theorem go_for {wi : TI} {g : TG} {tb : TS} {n : Nat} {Rc : Nat → Cell → Prop} {js : List Nat} (hi : EvI wi cs n Rc) (Pv : Nat → List Cell → Prop) (h0 : Pv 0 cs)
    (hs : ∀ B1, Same B0 B1 → ∀ i c cs', i < n → Rc i c → Pv i cs' → ∃ cs2, TgOk g js c cs' cs2 ∧ Go B1 F0 cs2 (tb { D with nx := Mid B1 F0 (Pv (i + 1)), ct := Mid B1 F0 (Pv (i + 1)), bk := D.nx }))
    (hd : ∀ cs', Pv n cs' → Go B0 F0 cs' D.nx) : Go B0 F0 cs (tFor wi g tb D) := fun σ H S =>
  hi B0 F0 [] [] σ H rfl S _ fun J B1 H1 G Y w sB S1 hG hY => by
    refine for_it w (fun i σ' H' => Mid B1 F0 (Pv i) σ' H') ⟨cs, h0, S1⟩ (fun i σ' H' _ ⟨_, _, S'⟩ => hG _ _ _ S') ?_ ?_
    · rintro i x σ' H2 H3 hi' ⟨cs', p, S2⟩ y
      obtain ⟨c, rc, S3⟩ := hY i _ _ H2 x H3 hi' S2 y
      obtain ⟨cs2, hg, hb⟩ := hs B1 sB i c cs' hi' rc p
      exact hg B1 F0 [] [] σ' H3 x rfl S3 _ fun σ2 H4 _ _ S4 => hb σ2 H4 S4
    · rintro σ' H2 ⟨cs', p, S2⟩
      exact hd cs' p σ' H2 (S2.root sB)
/-- over things told by a list: Pv of those gone through -/
theorem go_forF {α : Type} {wi : TI} {g : TG} {tb : TS} {n : Nat} {Rc : Nat → Cell → Prop} {js : List Nat} (xs : List α) (enc : α → PyData) (hi : EvI wi cs n Rc) (hn : n = xs.length) (hR : ∀ i c, i < n → Rc i c → ∃ x, xs[i]? = some x ∧ c = cD K (enc x))
    (Pv : List α → List Cell → Prop) (h0 : Pv [] cs)
    (hs : ∀ B1, Same B0 B1 → ∀ pre x post cs', xs = pre ++ x :: post → Pv pre cs' → ∃ cs2, TgOk g js (cD K (enc x)) cs' cs2 ∧ Go B1 F0 cs2 (tb { D with nx := Mid B1 F0 (Pv (pre ++ [x])), ct := Mid B1 F0 (Pv (pre ++ [x])), bk := D.nx }))
    (hd : ∀ cs', Pv xs cs' → Go B0 F0 cs' D.nx) : Go B0 F0 cs (tFor wi g tb D) := by
  subst hn
  refine go_for (js := js) hi (fun i cs' => Pv (xs.take i) cs') (by rw [List.take_zero]; exact h0) ?_ ?_
  · intro B1 sB i c cs' hi' rc p
    obtain ⟨x, ex, ec⟩ := hR i c hi' rc
    subst ec
    have et : xs.take (i + 1) = xs.take i ++ [x] := by rw [List.take_succ, ex]; rfl
    have es : xs = xs.take i ++ x :: xs.drop (i + 1) := by
      have h2 := List.drop_eq_getElem_cons hi'
      have ex' : xs[i] = x := by
        rw [List.getElem?_eq_getElem hi'] at ex
        exact Option.some.inj ex
      rw [ex'] at h2
      rw [← h2, List.take_append_drop]
    obtain ⟨cs2, hg, hb⟩ := hs B1 sB (xs.take i) x (xs.drop (i + 1)) cs' es p
    refine ⟨cs2, hg, ?_⟩
    rw [et]
    exact hb
  · intro cs' p
    rw [List.take_length] at p
    exact hd cs' p
theorem go_while {tb : TS} (W : Nat → List Cell → Prop) (m0 : Nat) (h0 : W m0 cs)
    (hs : ∀ m cs', W m cs' → ∃ b, EvT tt cs' (fun x => x = b) ∧ (b = true → Go B0 F0 cs' (tb { D with nx := Mid B0 F0 (fun c => ∃ m', m' < m ∧ W m' c), ct := Mid B0 F0 (fun c => ∃ m', m' < m ∧ W m' c), bk := D.nx })) ∧ (b = false → Go B0 F0 cs' D.nx)) :
    Go B0 F0 cs (tWhile tt tb D) := fun σ H S => by
  refine ⟨fun m σ' H' => Mid B0 F0 (W m) σ' H', ⟨m0, cs, h0, S⟩, ?_⟩
  rintro m σ' H' ⟨cs', w, S'⟩
  obtain ⟨b, ht, hy, hn⟩ := hs m cs' w
  refine ht B0 F0 [] [] σ' H' rfl S' _ fun c H2 r S2 => ?_
  subst r
  cases c with
  | true =>
    refine ⟨Mid B0 F0 (fun c => ∃ m', m' < m ∧ W m' c), ?_, hy rfl σ' H2 S2⟩
    rintro σ2 H3 ⟨cs2, ⟨m', lt, w'⟩, S3⟩
    exact ⟨m', lt, cs2, w', S3⟩
  | false => exact hn rfl σ' H2 S2
/-- the cells of the arguments behind a call: nothing is said, or what is owned is given back -/
inductive Back : List Cell → List Cell → List Cell → Prop
  | nil {cs : List Cell} : Back cs [] []
  | no {c a : Cell} {cs as bs : List Cell} : Back cs as bs → Back (c :: cs) (a :: as) (cNo :: bs)
  | keep {c a : Cell} {x : V} {cs as bs : List Cell} : c.Pin x → a.Pin x → Back cs as bs → Back (c :: cs) (a :: as) (c :: bs)
def spR {I : Type} (A : I → List Cell) (Po : I → List Cell → Cell → Prop) : Sp := fun vs H Q _ => ∃ (i : I) (B F : Hp) (fp : List Addr), H = pl B F ∧ Dj B F ∧ Holds B F (A i) (vs.map some) fp ∧ fp.Nodup ∧
  ∀ v B' F' cs' c' fp', Po i cs' c' → Same B B' → Dj B' F' → Holds B' F' (c' :: cs') (some v :: vs.map some) fp' → fp'.Nodup → (∀ a o, F a = some o → a ∉ fp → F' a = some o ∧ a ∉ fp') → Q v (pl B' F')
theorem back_holds {B F : Hp} : ∀ {cs as bs : List Cell} {σ vs : List (Option V)} {fp f0 : List Addr} {Bz Fz : Hp}, Back cs as bs → Holds B F cs σ fp → Holds Bz Fz as vs f0 → ∃ fp', fp'.Sublist fp ∧ Holds B F bs vs fp'
  | _, _, _, _, [], fp, _, _, _, .nil, _, _ => ⟨[], List.nil_sublist _, rfl⟩
  | _, _, _, _, _ :: _, _, _, _, _, .nil, _, h => h.elim
  | _, _, _, v :: σ, w :: vs, _, _, _, _, .no b, ⟨f1, f2, ef, hc, hr⟩, ⟨g1, g2, eg, hd, hs⟩ => by
    obtain ⟨fp', s, r⟩ := back_holds b hr hs
    exact ⟨[] ++ fp', by rw [ef]; exact s.trans (List.sublist_append_right _ _), .cons rfl r⟩
  | _, _, _, v :: σ, w :: vs, _, _, _, _, .keep p1 p2 b, ⟨f1, f2, ef, hc, hr⟩, ⟨g1, g2, eg, hd, hs⟩ => by
    obtain ⟨fp', s, r⟩ := back_holds b hr hs
    have e1 := p1 _ _ _ _ hc
    have e2 := p2 _ _ _ _ hd
    refine ⟨f1 ++ fp', by rw [ef]; exact s.append_left _, .cons ?_ r⟩
    rw [e2, ← e1]
    exact hc
  | _, _, _, [], _, _, _, _, _, .no _, h, _ => h.elim
  | _, _, _, [], _, _, _, _, _, .keep _ _ _, h, _ => h.elim
  | _, _, _, _ :: _, [], _, _, _, _, .no _, _, h => h.elim
  | _, _, _, _ :: _, [], _, _, _, _, .keep _ _ _, _, h => h.elim
theorem Holds.none {B F : Hp} : ∀ {n : Nat} {σ : List (Option V)}, σ.length = n → Holds B F (List.replicate n cNo) σ []
  | 0, [], _ => rfl
  | n + 1, _ :: σ, h => .cons (f1 := []) (f2 := []) rfl (Holds.none (Nat.succ.inj h))
/-- THE RULE of a def: from the cells of its arguments its body is shown -/
theorem enter {I : Type} {A : I → List Cell} {Po : I → List Cell → Cell → Prop} {N : List Str} {vs : List V} {H : Hp} {Q : VK} {E : XK} (hsp : spR A Po vs H Q E) :
    ∃ (i : I) (B0 F0 : Hp), (∀ c cs cs', Po i cs' c → Back cs (A i) cs' → RtOk B0 F0 (c :: cs) Q) ∧ ∀ T, Go B0 F0 (A i ++ List.replicate (N.length - (A i).length) cNo) T → T (start N vs) H := by
  obtain ⟨i, B, F, fp, h1, h2, h3, h4, h5⟩ := hsp
  have lv : vs.length = (A i).length := by
    have := h3.len
    rw [List.length_map] at this
    exact this
  have dec : ∀ a, Decidable (a ∈ fp) := fun a => inferInstance
  let F0 : Hp := fun a => if a ∈ fp then Option.none else F a
  have f0 : ∀ a o, F0 a = some o → a ∉ fp ∧ F a = some o := fun a o e => by
    by_cases m : a ∈ fp
    · have z : F0 a = Option.none := if_pos m
      rw [z] at e
      cases e
    · have z : F0 a = F a := if_neg m
      exact ⟨m, z ▸ e⟩
  refine ⟨i, B, F0, fun c cs cs' po bk σ Hw v S => ?_, fun T hT => ?_⟩
  · obtain ⟨B1, F1, fp1, q1, q2, q3, ⟨g1, g2, eg, hc, hr⟩, q5, q6⟩ := S
    obtain ⟨fp2, sub, hb⟩ := back_holds bk hr h3
    let fq := g1 ++ fp2
    have sq : fq.Sublist fp1 := by rw [eg]; exact sub.append_left _
    let F' : Hp := fun a => if a ∈ fq then F1 a else (match F0 a with | some _ => F1 a | Option.none => Option.none)
    let B' : Hp := fun a => match F' a with | some _ => Option.none | Option.none => pl B1 F1 a
    have fin : ∀ a o, F' a = some o → F1 a = some o := fun a o e => by
      by_cases m : a ∈ fq
      · have z : F' a = F1 a := if_pos m
        exact z ▸ e
      · have z : F' a = (match F0 a with | some _ => F1 a | Option.none => Option.none) := if_neg m
        rw [z] at e
        cases q : F0 a with
        | none => rw [q] at e; cases e
        | some x => rw [q] at e; exact e
    have bF : ∀ a o, F' a = some o → B' a = Option.none := fun a o e => by
      show (match F' a with | some _ => Option.none | Option.none => pl B1 F1 a) = Option.none
      rw [e]
    have bN : ∀ a, F' a = Option.none → B' a = pl B1 F1 a := fun a e => by
      show (match F' a with | some _ => Option.none | Option.none => pl B1 F1 a) = _
      rw [e]
    have sB : Same B1 B' := fun a o e => by
      have z : F1 a = Option.none := by
        cases y : F1 a with
        | none => rfl
        | some x => rw [q2 a x y] at e; cases e
      have z' : F' a = Option.none := by
        cases y : F' a with
        | none => rfl
        | some x => rw [fin a x y] at z; cases z
      rw [bN a z', pl_B z]
      exact e
    have eH : pl B' F' = pl B1 F1 := by
      funext a
      cases y : F' a with
      | none => rw [pl_B y, bN a y]
      | some x => rw [pl_F y, pl_F (fin a x y)]
    have agree : ∀ a ∈ fq, F' a = F1 a := fun a m => if_pos m
    rw [q1, ← eH]
    refine h5 v B' F' cs' c fq po (q3.trans sB) bF ((Holds.cons hc hb).mono sB |>.loc agree) (q5.sublist sq) fun a o e m => ?_
    have z : F0 a = some o := by
      have : F0 a = F a := if_neg m
      rw [this]
      exact e
    obtain ⟨y1, y2⟩ := q6 a o z
    have m2 : a ∉ fq := fun k => y2 (sq.subset k)
    refine ⟨?_, m2⟩
    have : F' a = (match F0 a with | some _ => F1 a | Option.none => Option.none) := if_neg m2
    rw [this, z]
    exact y1
  · refine hT _ _ ⟨B, F, fp ++ [], h1, h2, fun _ _ e => e, h3.app (Holds.none ?_), by rw [List.append_nil]; exact h4, fun a o e => ?_⟩
    · rw [List.length_replicate, lv]
    · obtain ⟨z1, z2⟩ := f0 a o e
      exact ⟨z2, by rw [List.append_nil]; exact z1⟩
/-- data in, data out -/
def spD {I : Type} (K : PySem.W.Frag) (A : I → List PyData) (f : I → PyData) : Sp := spR (fun i => (A i).map (cD K)) (fun i cs' c' => c' = cD K (f i) ∧ cs' = (A i).map fun _ => cNo)
theorem back_no {cs : List Cell} : ∀ {as : List PyData} {rest : List Cell}, cs = as.map (cD K) ++ rest → True := fun _ => trivial
theorem back_all : ∀ {ds : List PyData} {cs : List Cell}, ds.length ≤ cs.length → Back cs (ds.map (cD K)) (ds.map fun _ => cNo)
  | [], _, _ => .nil
  | _ :: ds, _ :: cs, h => .no (back_all (Nat.le_of_succ_le_succ h))
  | _ :: _, [], h => by cases h
theorem enterD {I : Type} {A : I → List PyData} {f : I → PyData} {N : List Str} {vs : List V} {H : Hp} {Q : VK} {E : XK} (hsp : spD K A f vs H Q E) :
    ∃ (i : I) (B0 F0 : Hp), (∀ cs, (A i).length ≤ cs.length → RtOk B0 F0 (cD K (f i) :: cs) Q) ∧ ∀ T, Go B0 F0 ((A i).map (cD K) ++ List.replicate (N.length - (A i).length) cNo) T → T (start N vs) H := by
  obtain ⟨i, B0, F0, h1, h2⟩ := enter (N := N) hsp
  refine ⟨i, B0, F0, fun cs hl => h1 _ _ _ ⟨rfl, rfl⟩ (back_all hl), fun T hT => h2 T ?_⟩
  rw [List.length_map]
  exact hT
/-- a call whose arguments are the cells of its promise -/
theorem call_sim {I : Type} {A : I → List Cell} {Po : I → List Cell → Cell → Prop} {B0 F0 H : Hp} {ts : List Cell} {us : List (Option V)} {vs : List V} {Q : VK} {E : XK} (i : I) (hl : vs.length = (A i).length) (S : Sim B0 F0 (A i ++ ts) (vs.map some ++ us) H)
    (q : ∀ v cs' c' H', Po i cs' c' → Sim B0 F0 ((c' :: cs') ++ ts) ((some v :: vs.map some) ++ us) H' → Q v H') : spR A Po vs H Q E := by
  obtain ⟨B, F, fp, h1, h2, h3, h4, h5, h6⟩ := S
  obtain ⟨f1, f2, ef, r1, r2⟩ := Holds.split (by rw [List.length_map, hl]) h4
  subst ef
  obtain ⟨n1, n2, n3⟩ := List.nodup_append.mp h5
  refine ⟨i, B, F, f1, h1, h2, r1, n1, fun v B' F' cs' c' fp' po sB d hh nd hk => q v cs' c' _ po ?_⟩
  have k2 : ∀ a ∈ f2, F' a = F a ∧ a ∉ fp' := fun a m => by
    have na : a ∉ f1 := fun z => n3 a z a m rfl
    cases e : F a with
    | none => exact absurd e (r2.dom a m)
    | some o =>
      obtain ⟨y1, y2⟩ := hk a o e na
      exact ⟨y1, y2⟩
  refine ⟨B', F', fp' ++ f2, rfl, d, h3.trans sB, hh.app ((r2.mono sB).loc fun a m => (k2 a m).1), List.nodup_append.mpr ⟨nd, n2, fun a m b m' e => ?_⟩, fun a o e => ?_⟩
  · subst e
    exact (k2 a m').2 m
  · obtain ⟨y1, y2⟩ := h6 a o e
    have m1 : a ∉ f1 := fun z => y2 (List.mem_append_left _ z)
    have m2 : a ∉ f2 := fun z => y2 (List.mem_append_right _ z)
    obtain ⟨y3, y4⟩ := hk a o y1 m1
    refine ⟨y3, fun z => ?_⟩
    rcases List.mem_append.mp z with z | z
    · exact y4 z
    · exact m2 z
theorem Sim.cut {B0 F0 H : Hp} {c : Cell} {v : Option V} {xs : List Cell} {ys σ : List (Option V)} (hl : ys.length = xs.length) (S : Sim B0 F0 (c :: (xs ++ cs)) (v :: (ys ++ σ)) H) : Sim B0 F0 (c :: cs) (v :: σ) H := by
  obtain ⟨B, F, fp, h1, h2, h3, ⟨f1, f2, ef, hc, hr⟩, h5, h6⟩ := S
  obtain ⟨g1, g2, eg, r1, r2⟩ := Holds.split hl hr
  subst eg
  subst ef
  exact ⟨B, F, f1 ++ g2, h1, h2, h3, .cons hc r2, h5.sublist ((List.sublist_append_right _ _).append_left _), fun a o e => ⟨(h6 a o e).1, fun m => (h6 a o e).2 (by
    simp only [List.mem_append] at m ⊢
    rcases m with m | m
    · exact .inl m
    · exact .inr (.inr m))⟩⟩
/-- f(..) of data -/
theorem ev_call {I : Type} {A : I → List PyData} {f : I → PyData} {E : XK} {ta : TA} (i : I) (h : EvA ta cs (fun as => as = (A i).map (cD K))) : Ev (tCall (spD K A f) [] E ta) cs (Is (cD K (f i))) := fun B0 F0 ts us σ H hl S Q q =>
  h B0 F0 ts us σ H hl S _ fun as vs H1 r hv S1 => by
    subst r
    show spR _ _ (vs ++ []) H1 Q E
    rw [List.append_nil]
    refine call_sim i hv S1 fun v cs' c' H' ⟨e1, e2⟩ S2 => ?_
    subst e1 e2
    exact q _ v H' rfl (Sim.cut (xs := (A i).map fun _ => cNo) (ys := vs.map some) (by rw [List.length_map, List.length_map, hv, List.length_map]) S2)
/-- the arguments stand in front: the i-th slot of the def, which is owned, takes the first one's place -/
theorem Sim.lend {B0 F0 H : Hp} {x : V} {c : Cell} {xs ts : List Cell} {ys us σ : List (Option V)} {k : Nat} (hp : c.Pin x) (hk : cs[k]? = some c) (hl : us.length = ts.length) (hy : ys.length = xs.length) (S : Sim B0 F0 (cV x :: (xs ++ (ts ++ cs))) (some x :: (ys ++ (us ++ σ))) H) :
    Sim B0 F0 (c :: (xs ++ (ts ++ cs.set k cNo))) (some x :: (ys ++ (us ++ σ))) H := by
  obtain ⟨B, F, fp, h1, h2, h3, ⟨f1, f2, ef, ⟨e1, _⟩, hr⟩, h5, h6⟩ := S
  subst e1
  rw [List.nil_append] at ef
  subst ef
  obtain ⟨g1, g2, eg, r1, r2⟩ := Holds.split hy hr
  obtain ⟨g3, g4, eg2, r3, r4⟩ := Holds.split hl r2
  obtain ⟨w, pre, mid, post, e2, e3, ok, hh⟩ := Holds.get r4 hk
  have ew := hp _ _ _ _ ok
  subst ew
  have r5 := hh cNo (some x) [] rfl
  have es : σ.set k (some x) = σ := by
    have hs : k < σ.length := (List.getElem?_eq_some_iff.mp e2).1
    have e0 : σ[k] = some x := by
      have q := e2
      rw [List.getElem?_eq_getElem hs] at q
      exact Option.some.inj q
    rw [← e0, List.set_getElem_self]
  rw [es] at r5
  subst e3 eg2 eg
  have pm : (mid ++ (g1 ++ (g3 ++ (pre ++ [] ++ post)))).Perm (g1 ++ (g3 ++ (pre ++ mid ++ post))) := by
    rw [List.append_nil]
    have p1 : (mid ++ (pre ++ post)).Perm (pre ++ mid ++ post) := by
      rw [← List.append_assoc]
      exact List.Perm.append_right _ List.perm_append_comm
    have p2 : (mid ++ (g3 ++ (pre ++ post))).Perm (g3 ++ (pre ++ mid ++ post)) := (List.perm_append_comm_assoc mid g3 _).trans (List.Perm.append_left _ p1)
    exact (List.perm_append_comm_assoc mid g1 _).trans (List.Perm.append_left _ p2)
  exact ⟨B, F, mid ++ (g1 ++ (g3 ++ (pre ++ [] ++ post))), h1, h2, h3, .cons ok (r1.app (r3.app r5)), pm.nodup_iff.mpr h5, fun a o e => ⟨(h6 a o e).1, fun m => (h6 a o e).2 (pm.mem_iff.mp m)⟩⟩
/-- what was lent goes back to its slot -/
theorem Sim.giveBack {B0 F0 H : Hp} {x : V} {c c2 : Cell} {xs ts : List Cell} {ys us σ : List (Option V)} {v : Option V} {k : Nat} (hp : c2.Pin x) (hk : k < cs.length) (hx : σ[k]? = some (some x)) (hl : us.length = ts.length) (hy : ys.length = xs.length)
    (S : Sim B0 F0 (c :: (c2 :: (xs ++ (ts ++ cs)))) (v :: (some x :: (ys ++ (us ++ σ)))) H) : Sim B0 F0 (c :: (ts ++ cs.set k c2)) (v :: (us ++ σ)) H := by
  have S2 : Sim B0 F0 (c :: c2 :: (ts ++ cs)) (v :: some x :: (us ++ σ)) H := by
    have S3 := Sim.cut (xs := xs) (ys := ys) (cs := c :: (ts ++ cs)) (σ := v :: (us ++ σ)) (c := c2) (v := some x) hy (by
      have z := S.swap
      -- c2 :: c :: xs ++ ..
      obtain ⟨B, F, fp, h1, h2, h3, ⟨f1, _, ef, hc, ⟨g1, g2, eg, hc2, hr⟩⟩, h5, h6⟩ := z
      obtain ⟨g3, g4, eg2, r3, r4⟩ := Holds.split hy hr
      subst eg2 eg ef
      have pm : (f1 ++ (g3 ++ (g1 ++ g4))).Perm (f1 ++ (g1 ++ (g3 ++ g4))) := by
        refine List.Perm.append_left _ ?_
        rw [← List.append_assoc, ← List.append_assoc]
        exact List.Perm.append_right _ List.perm_append_comm
      exact ⟨B, F, f1 ++ (g3 ++ (g1 ++ g4)), h1, h2, h3, .cons hc (r3.app (.cons hc2 r4)), pm.nodup_iff.mpr h5, fun a o e => ⟨(h6 a o e).1, fun m => (h6 a o e).2 (pm.mem_iff.mp m)⟩⟩)
    exact S3.swap
  have S4 := S2.swap.set (ts.length + k + 1)
  rw [List.set_cons_succ, List.set_cons_succ, set_app rfl] at S4
  have es : (us ++ σ).set (ts.length + k) (some x) = us ++ σ := by
    rw [set_app hl.symm]
    congr 1
    have hs : k < σ.length := (List.getElem?_eq_some_iff.mp hx).1
    have e0 : σ[k] = some x := by
      have q := hx
      rw [List.getElem?_eq_getElem hs] at q
      exact Option.some.inj q
    rw [← e0, List.set_getElem_self]
  rw [es] at S4
  exact S4
/-- f(o, ..): o is owned and stands in slot k; behind the call it is as the promise says -/
theorem ev_callR {I : Type} {A : I → List Cell} {Po : I → List Cell → Cell → Prop} {E : XK} {ta : TA} {c : Cell} {x : V} {ds : List PyData} {Rx : Cell → List Cell → Prop} (i : I) (k : Nat) (hk : cs[k]? = some c) (hp : c.Pin x) (hA : A i = c :: ds.map (cD K))
    (h : EvA ta cs (fun as => as = cV x :: ds.map (cD K))) (hr : ∀ cs' c', Po i cs' c' → ∃ c2, c2.Pin x ∧ cs' = c2 :: ds.map (fun _ => cNo) ∧ Rx c' (cs.set k c2)) : EvX (tCall (spR A Po) [] E ta) cs Rx := fun B0 F0 ts us σ H hl S Q q =>
  h B0 F0 ts us σ H hl S _ fun as vs H1 r hv S1 => by
    subst r
    show spR _ _ (vs ++ []) H1 Q E
    rw [List.append_nil]
    match vs, hv with
    | y :: ws, hv =>
      have hv' : ws.length = ds.length := by simpa using hv
      have ey := Sim.pin (cs := cV x :: (ds.map (cD K) ++ (ts ++ cs))) (σ := some y :: (ws.map some ++ (us ++ σ))) (i := 0) cV_pin S1 rfl
      cases (Option.some.inj (Option.some.inj ey))
      have S2 := Sim.lend (cs := cs) (σ := σ) hp hk hl (xs := ds.map (cD K)) (ys := ws.map some) (by rw [List.length_map, List.length_map, hv']) S1
      have hx : σ[k]? = some (some x) := by
        have hk' : (ts ++ cs)[ts.length + k]? = some c := by rw [at_ts rfl]; exact hk
        have z := S.pin hp hk'
        rw [at_ts hl.symm] at z
        exact z
      refine call_sim (ts := ts ++ cs.set k cNo) (us := us ++ σ) i (by rw [hA]; simp [hv']) (by rw [hA]; exact S2) fun v cs' c' H' po S3 => ?_
      obtain ⟨c2, p2, e2, rx⟩ := hr cs' c' po
      subst e2
      have S4 := Sim.giveBack (cs := cs.set k cNo) (σ := σ) (k := k) (xs := ds.map fun _ => cNo) (ys := ws.map some) p2 (by rw [List.length_set]; exact (List.getElem?_eq_some_iff.mp hk).1) hx hl (by rw [List.length_map, List.length_map, hv']) S3
      rw [List.set_set] at S4
      exact q c' v _ H' rx S4
end
end Z
namespace Z
open PySem L2 StX
section
variable {K : PySem.W.Frag} {B0 F0 H : Hp} {cs ts : List Cell} {us σ : List (Option V)} {c : Cell}
/-- a cell of the row, opened; what may take its place -/
theorem Sim.openAt {k : Nat} (S : Sim B0 F0 cs σ H) (hk : cs[k]? = some c) : ∃ w B F mid, σ[k]? = some w ∧ H = pl B F ∧ Dj B F ∧ mid.Nodup ∧ c.ok w B F mid ∧ (∀ {K : PySem.W.Frag} d x, Dp K B x d → Sim B0 F0 (cD K d :: cs) (some x :: σ) H) ∧ (∀ {K : PySem.W.Frag} (j : Nat) d, cs[j]? = some (cD K d) → ∃ x, σ[j]? = some (some x) ∧ Dp K B x d) ∧
    ∀ B' F' c' mid', Same B B' → Dj B' F' → c'.ok w B' F' mid' → mid'.Nodup → (∀ a o, F a = some o → a ∉ mid → F' a = some o ∧ a ∉ mid') → Sim B0 F0 (cs.set k c') σ (pl B' F') := by
  obtain ⟨B, F, fp, h1, h2, h3, h4, h5, h6⟩ := S
  obtain ⟨w, pre, mid, post, e1, e2, ok, hh⟩ := Holds.get h4 hk
  subst e2
  have n1 : mid.Nodup := h5.sublist ((List.sublist_append_right _ _).trans (List.sublist_append_left _ _))
  refine ⟨w, B, F, mid, e1, h1, h2, n1, ok, fun {K} d x hd => ⟨B, F, _, h1, h2, h3, ⟨[], _, rfl, ⟨rfl, x, rfl, hd⟩, h4⟩, h5, h6⟩, fun {K} j d hj => ?_, fun B' F' c' mid' sB dj ok' nd' hk' => ?_⟩
  · obtain ⟨w2, _, _, _, g1, _, ⟨_, x, ex, rx⟩, _⟩ := Holds.get h4 hj
    exact ⟨x, by rw [g1, ex], rx⟩
  have hs : k < σ.length := (List.getElem?_eq_some_iff.mp e1).1
  have e0 : σ[k] = w := by
    have q := e1
    rw [List.getElem?_eq_getElem hs] at q
    exact Option.some.inj q
  -- the others stand as they stood
  have oth : ∀ a ∈ pre ++ post, F' a = F a ∧ a ∉ mid' := fun a m => by
    have na : a ∉ mid := fun z => by
      rcases List.mem_append.mp m with m | m
      · exact (List.nodup_append.mp (List.nodup_append.mp h5).1).2.2 a m a z rfl
      · exact (List.nodup_append.mp h5).2.2 a (List.mem_append_right _ z) a m rfl
    have nn : F a ≠ none := h4.dom a (by
      simp only [List.mem_append] at m ⊢
      rcases m with m | m
      · exact .inl (.inl m)
      · exact .inr m)
    cases e : F a with
    | none => exact absurd e nn
    | some o => exact hk' a o e na
  -- an empty cell there, then the new one
  have r0 : Holds B F (cs.set k cNo) (σ.set k w) (pre ++ [] ++ post) := hh cNo w [] rfl
  have r1 : Holds B' F' (cs.set k cNo) (σ.set k w) (pre ++ [] ++ post) := (r0.mono sB).loc fun a m => (oth a (by simpa using m)).1
  have hl : k < cs.length := (List.getElem?_eq_some_iff.mp hk).1
  obtain ⟨w2, pre2, mid2, post2, e3, e4, ok2, hh2⟩ := Holds.get (i := k) (c := cNo) r1 (by rw [List.getElem?_set_self hl])
  have em : mid2 = [] := ok2
  subst em
  have r2 := hh2 c' w mid' ok'
  rw [List.set_set, List.set_set, ← e0, List.set_getElem_self] at r2
  have ep : pre ++ post = pre2 ++ post2 := by simpa using e4
  have np : (pre2 ++ post2).Nodup := by
    rw [← ep]
    exact h5.sublist (by
      refine List.Sublist.append_right ?_ _
      exact List.sublist_append_left _ _)
  have pm : (pre2 ++ mid' ++ post2).Perm (mid' ++ (pre2 ++ post2)) := by
    rw [← List.append_assoc]
    exact List.Perm.append_right _ List.perm_append_comm
  refine ⟨B', F', pre2 ++ mid' ++ post2, rfl, dj, h3.trans sB, r2, pm.nodup_iff.mpr (List.nodup_append.mpr ⟨nd', np, fun a m b m' e => ?_⟩), fun a o e => ?_⟩
  · subst e
    rw [← ep] at m'
    exact (oth a m').2 m
  · obtain ⟨y1, y2⟩ := h6 a o e
    have na : a ∉ mid := fun z => y2 (by simp [z])
    obtain ⟨y3, y4⟩ := hk' a o y1 na
    refine ⟨y3, fun z => ?_⟩
    rcases List.mem_append.mp (pm.mem_iff.mp z) with z | z
    · exact y4 z
    · rw [← ep] at z
      refine y2 ?_
      simp only [List.mem_append] at z ⊢
      rcases z with z | z
      · exact .inl (.inl z)
      · exact .inr z
def cIns (C p : Addr) (ns : List Str) (fs : List Cell) : Cell where
  ok := fun v B F fp => ∃ dx vals f2, fp = p :: f2 ∧ v = some (.ref p) ∧ F p = some (.ins C dx (ns.zip vals)) ∧ vals.length = ns.length ∧ p ∉ f2 ∧ Holds B F fs (vals.map some) f2
  mono := fun e ⟨dx, vals, f2, h1, h2, h3, h4, h5, h6⟩ => ⟨dx, vals, f2, h1, h2, h3, h4, h5, h6.mono e⟩
  loc := fun k ⟨dx, vals, f2, h1, h2, h3, h4, h5, h6⟩ => ⟨dx, vals, f2, h1, h2, (k _ (by rw [h1]; exact List.mem_cons_self ..)).trans h3, h4, h5, h6.loc fun a m => k a (by rw [h1]; exact List.mem_cons_of_mem _ m)⟩
  dom := fun ⟨dx, vals, f2, h1, h2, h3, h4, h5, h6⟩ a m => by
    rw [h1] at m
    rcases List.mem_cons.mp m with e | e
    · rw [e, h3]
      exact fun z => nomatch z
    · exact h6.dom a e
theorem cIns_pin {C p : Addr} {ns : List Str} {fs : List Cell} : (cIns C p ns fs).Pin (.ref p) := fun _ _ _ _ ⟨_, _, _, _, h2, _⟩ => h2
def ixF (f : Str) : List Str → Nat
  | [] => 0
  | n :: ns => if n = f then 0 else ixF f ns + 1
theorem zip_lookup : ∀ {ns : List Str} {vals : List V} {f : Str} {i : Nat} {x : V}, ixF f ns = i → i < ns.length → vals[i]? = some x → (ns.zip vals).lookup f = some x
  | [], _, _, i, _, _, h, _ => absurd h (Nat.not_lt_zero i)
  | n :: ns, [], _, _, _, _, _, h => by simp at h
  | n :: ns, v :: vals, f, i, x, e, hl, h => by
    rw [List.zip_cons_cons]
    by_cases q : n = f
    · subst q
      have e : (if n = n then 0 else ixF n ns + 1) = i := e
      rw [if_pos rfl] at e
      subst e
      rw [List.lookup_cons, beq_self_eq_true]
      simpa using h
    · have e : (if n = f then 0 else ixF f ns + 1) = i := e
      rw [if_neg q] at e
      subst e
      have nb : (f == n) = false := by
        rw [beq_eq_false_iff_ne]
        exact fun z => q z.symm
      rw [List.lookup_cons, nb]
      exact zip_lookup rfl (by simpa using hl) (by simpa using h)
theorem zip_none : ∀ {ns : List Str} {vals : List V} {f : Str}, f ∉ ns → (ns.zip vals).lookup f = none
  | [], _, _, _ => by simp
  | n :: ns, [], _, _ => by simp
  | n :: ns, v :: vals, f, h => by
    rw [List.zip_cons_cons, List.lookup_cons]
    have nb : (f == n) = false := by
      rw [beq_eq_false_iff_ne]
      intro z
      subst z
      exact h (List.mem_cons_self ..)
    rw [nb]
    exact zip_none fun m => h (List.mem_cons_of_mem _ m)
theorem putF_zip : ∀ {ns : List Str} {vals : List V} {f : Str} {i : Nat} {y : V}, ixF f ns = i → i < ns.length → vals.length = ns.length → putF f y (ns.zip vals) = ns.zip (vals.set i y)
  | [], _, _, i, _, _, h, _ => absurd h (Nat.not_lt_zero i)
  | n :: ns, [], _, _, _, _, _, h => by cases h
  | n :: ns, v :: vals, f, i, y, e, hl, hv => by
    show (if n = f then (n, y) :: ns.zip vals else (n, v) :: putF f y (ns.zip vals)) = _
    by_cases q : n = f
    · subst q
      have e : (if n = n then 0 else ixF n ns + 1) = i := e
      rw [if_pos rfl] at e
      subst e
      rw [if_pos rfl]
      rfl
    · have e : (if n = f then 0 else ixF f ns + 1) = i := e
      rw [if_neg q] at e
      subst e
      rw [if_neg q, putF_zip rfl (by simpa using hl) (by simpa using hv)]
      rfl
theorem putF_new : ∀ {ns : List Str} {vals : List V} {f : Str} {y : V}, f ∉ ns → vals.length = ns.length → putF f y (ns.zip vals) = (ns ++ [f]).zip (vals ++ [y])
  | [], [], _, _, _, _ => rfl
  | [], _ :: _, _, _, _, h => by cases h
  | _ :: _, [], _, _, _, h => by cases h
  | n :: ns, v :: vals, f, y, h, hv => by
    show (if n = f then (n, y) :: ns.zip vals else (n, v) :: putF f y (ns.zip vals)) = _
    rw [if_neg (fun z => h (by rw [z]; exact List.mem_cons_self ..)), putF_new (fun m => h (List.mem_cons_of_mem _ m)) (by simpa using hv)]
    rfl
variable {te ta tv : TE} {R : Cell → Prop} {d : PyData}
/-- o.f, data -/
theorem ev_fldD {C p : Addr} {ns : List Str} {fs : List Cell} {f : Str} {k i : Nat} (he : Ev te cs (Is (cV (.ref p)))) (hk : cs[k]? = some (cIns C p ns fs)) (hi : ixF f ns = i) (hc : fs[i]? = some (cD K d)) (cl : Cls K C) (na : NoAttr K C f) :
    Ev (tFld K te f) cs (Is (cD K d)) := fun B0 F0 ts us σ H hl S Q q => he B0 F0 ts us σ H hl S _ fun c x H1 r S1 => by
  subst r
  have ex := S1.pin (i := 0) cV_pin rfl
  cases (Option.some.inj (Option.some.inj ex))
  have hk' : (ts ++ cs)[ts.length + k]? = some (cIns C p ns fs) := by rw [at_ts rfl]; exact hk
  obtain ⟨w, B, F, mid, e1, e2, dj, nd, ⟨dx, vals, f2, h1, h2, h3, h4, h5, h6⟩, push, _, _⟩ := S1.pop.openAt hk'
  obtain ⟨y, pre, m2, post, g1, g2, ⟨_, z, ez, rz⟩, _⟩ := Holds.get h6 hc
  subst ez
  have g1' : vals[i]? = some z := by
    rw [List.getElem?_map] at g1
    cases e : vals[i]? with
    | none => rw [e] at g1; cases g1
    | some u => rw [e] at g1; exact Option.some.inj g1
  have hin : i < ns.length := by
    rw [← h4]
    exact (List.getElem?_eq_some_iff.mp g1').1
  exact ⟨p, C, dx, _, z, rfl, by rw [e2]; exact pl_F h3, cl, na, zip_lookup hi hin g1', q _ z H1 rfl (push d z rz)⟩
/-- o.f, a value that is told -/
theorem ev_fldP {C p : Addr} {ns : List Str} {fs : List Cell} {f : Str} {k i : Nat} {c : Cell} {x : V} (he : Ev te cs (Is (cV (.ref p)))) (hk : cs[k]? = some (cIns C p ns fs)) (hi : ixF f ns = i) (hc : fs[i]? = some c) (hp : c.Pin x) (cl : Cls K C) (na : NoAttr K C f) :
    Ev (tFld K te f) cs (Is (cV x)) := fun B0 F0 ts us σ H hl S Q q => he B0 F0 ts us σ H hl S _ fun c' y H1 r S1 => by
  subst r
  have ex := S1.pin (i := 0) cV_pin rfl
  cases (Option.some.inj (Option.some.inj ex))
  have hk' : (ts ++ cs)[ts.length + k]? = some (cIns C p ns fs) := by rw [at_ts rfl]; exact hk
  obtain ⟨w, B, F, mid, e1, e2, dj, nd, ⟨dx, vals, f2, h1, h2, h3, h4, h5, h6⟩, push, _, _⟩ := S1.pop.openAt hk'
  obtain ⟨y, pre, m2, post, g1, g2, ok, _⟩ := Holds.get h6 hc
  have ey := hp _ _ _ _ ok
  subst ey
  have g1' : vals[i]? = some x := by
    rw [List.getElem?_map] at g1
    cases e : vals[i]? with
    | none => rw [e] at g1; cases g1
    | some u => rw [e] at g1; exact Option.some.inj g1
  have hin : i < ns.length := by
    rw [← h4]
    exact (List.getElem?_eq_some_iff.mp g1').1
  exact ⟨p, C, dx, _, x, rfl, by rw [e2]; exact pl_F h3, cl, na, zip_lookup hi hin g1', q _ x H1 rfl S1.pop.pushV⟩
theorem nodup_cons' {α : Type} {p : α} {l : List α} (h : (p :: l).Nodup) : p ∉ l ∧ l.Nodup := List.nodup_cons.mp h
/-- o.f = e: what stands in front goes into the i-th field -/
theorem Sim.field {C p : Addr} {ns : List Str} {fs : List Cell} {k i : Nat} {x : V} {H : Hp} (S : Sim B0 F0 (c :: cs) (some x :: σ) H) (hk : cs[k]? = some (cIns C p ns fs)) (hi : i < fs.length) :
    ∃ dx vals, H p = some (.ins C dx (ns.zip vals)) ∧ vals.length = ns.length ∧ fs.length = vals.length ∧ Sim B0 F0 (cs.set k (cIns C p ns (fs.set i c))) σ (upd H p (.ins C dx (ns.zip (vals.set i x)))) := by
  obtain ⟨B, F, fp, h1, h2, h3, ⟨f1, f2, ef, hc, hr⟩, h5, h6⟩ := S
  subst ef
  obtain ⟨w, pre, mid, post, e1, e2, ⟨dx, vals, g2, a1, a2, a3, a4, a5, a6⟩, hh⟩ := Holds.get hr hk
  have lf := a6.len
  rw [List.length_map] at lf
  subst e2 a1
  refine ⟨dx, vals, by rw [h1]; exact pl_F a3, a4, lf.symm, ?_⟩
  have pF : F p ≠ none := by rw [a3]; exact fun z => nomatch z
  -- the field's own footprint
  obtain ⟨y, q1, q2, q3, b1, b2, b3, b4⟩ := Holds.get (i := i) (c := fs[i]) a6 (List.getElem?_eq_getElem hi)
  have b5 := b4 c (some x) f1 hc
  have nd := h5
  rw [List.nodup_append] at nd
  obtain ⟨nf1, nrest, dis⟩ := nd
  have nmid : (p :: g2).Nodup := nrest.sublist ((List.sublist_append_right _ _).trans (List.sublist_append_left _ _))
  have pf1 : p ∉ f1 := fun m => dis p m p (by simp) rfl
  have pq : p ∉ q1 ++ f1 ++ q3 := fun m => by
    have n2 := (nodup_cons' nmid).1
    rw [b2] at n2
    simp only [List.mem_append] at m n2
    rcases m with (m | m) | m
    · exact n2 (.inl (.inl m))
    · exact pf1 m
    · exact n2 (.inr m)
  let F' : Hp := upd F p (.ins C dx (ns.zip (vals.set i x)))
  have ag : ∀ a, a ≠ p → F' a = F a := fun a ne => upd_ne ne
  have okn : (cIns C p ns (fs.set i c)).ok w B F' (p :: (q1 ++ f1 ++ q3)) := by
    refine ⟨dx, vals.set i x, q1 ++ f1 ++ q3, rfl, a2, upd_same, by rw [List.length_set]; exact a4, pq, ?_⟩
    rw [List.map_set]
    exact b5.loc fun a m => ag a fun z => pq (z ▸ m)
  have dj : Dj B F' := dj_updF h2 (by
    cases e : F p with
    | none => exact absurd e pF
    | some o => exact h2 p o e)
  have hpre : ∀ a ∈ pre ++ post, a ≠ p := fun a m z => by
    subst z
    have : (pre ++ a :: g2 ++ post).Nodup := nrest
    rcases List.mem_append.mp m with m | m
    · exact (List.nodup_append.mp (List.nodup_append.mp this).1).2.2 a m a (List.mem_cons_self ..) rfl
    · exact (List.nodup_append.mp this).2.2 a (by simp) a m rfl
  -- the row with an empty cell at k
  have r0 : Holds B F (cs.set k cNo) (σ.set k w) (pre ++ [] ++ post) := hh cNo w [] rfl
  have r1 : Holds B F' (cs.set k cNo) (σ.set k w) (pre ++ [] ++ post) := r0.loc fun a m => ag a (hpre a (by simpa using m))
  have hl : k < cs.length := (List.getElem?_eq_some_iff.mp hk).1
  obtain ⟨w2, pre2, mid2, post2, e3, e4, ok2, hh2⟩ := Holds.get (i := k) (c := cNo) r1 (by rw [List.getElem?_set_self hl])
  have em : mid2 = [] := ok2
  subst em
  have r2 := hh2 _ w _ okn
  have hs : k < σ.length := (List.getElem?_eq_some_iff.mp e1).1
  have e0 : σ[k] = w := by
    have q := e1
    rw [List.getElem?_eq_getElem hs] at q
    exact Option.some.inj q
  rw [List.set_set, List.set_set, ← e0, List.set_getElem_self] at r2
  have ep : pre ++ post = pre2 ++ post2 := by simpa using e4
  have big : (f1 ++ (p :: (q1 ++ q2 ++ q3)) ++ (pre2 ++ post2)).Nodup := by
    have pm : (f1 ++ (pre ++ p :: g2 ++ post)).Perm (f1 ++ (p :: (q1 ++ q2 ++ q3)) ++ (pre2 ++ post2)) := by
      rw [← ep, ← b2, List.append_assoc f1]
      refine List.Perm.append_left _ ?_
      rw [← List.append_assoc]
      exact List.Perm.append_right _ List.perm_append_comm
    exact pm.nodup_iff.mp h5
  have pm2 : (pre2 ++ (p :: (q1 ++ f1 ++ q3)) ++ post2).Perm (f1 ++ (p :: (q1 ++ q3)) ++ (pre2 ++ post2)) := by
    have p1 : (pre2 ++ (p :: (q1 ++ f1 ++ q3)) ++ post2).Perm ((p :: (q1 ++ f1 ++ q3)) ++ (pre2 ++ post2)) := by
      rw [← List.append_assoc]
      exact List.Perm.append_right _ List.perm_append_comm
    refine p1.trans (List.Perm.append_right _ ?_)
    have p2 : (q1 ++ f1 ++ q3).Perm (f1 ++ (q1 ++ q3)) := by
      rw [← List.append_assoc]
      exact List.Perm.append_right _ List.perm_append_comm
    exact (List.Perm.cons p p2).trans List.perm_middle.symm
  rw [h1, pl_updF]
  refine ⟨B, F', _, rfl, dj, h3, r2, pm2.nodup_iff.mpr (big.sublist ?_), fun a o e => ?_⟩
  · refine List.Sublist.append_right (List.Sublist.append_left (List.Sublist.cons₂ _ ?_) _) _
    exact List.Sublist.append_right (List.sublist_append_left _ _) _
  · obtain ⟨y1, y2⟩ := h6 a o e
    have nap : a ≠ p := fun z => y2 (by subst z; simp)
    refine ⟨(ag a nap).trans y1, fun z => y2 ?_⟩
    have z2 := pm2.mem_iff.mp z
    rw [b2]
    simp only [List.mem_append, List.mem_cons] at z2 ⊢
    have ep' : a ∈ pre ++ post ↔ a ∈ pre2 ++ post2 := by rw [ep]
    simp only [List.mem_append] at ep'
    rcases z2 with (z2 | (z2 | (z2 | z2))) | z2
    · exact .inl z2
    · exact absurd z2 nap
    · exact .inr (.inl (.inr (.inr (.inl (.inl z2)))))
    · exact .inr (.inl (.inr (.inr (.inr z2))))
    · rcases ep'.mpr z2 with z3 | z3
      · exact .inr (.inl (.inl z3))
      · exact .inr (.inr z3)
end
end Z
namespace Z
open PySem L2 StX
section
variable {K : PySem.W.Frag} {B0 F0 H : Hp} {cs ts : List Cell} {us σ : List (Option V)} {c : Cell} {te ta tv tb : TE} {R : Cell → Prop} {d : PyData} {D : Ends}
theorem upd_upd {H : Hp} {p : Addr} {o o' : HO} : upd (upd H p o) p o' = upd H p o' := by
  funext b
  by_cases e : b = p
  · subst e
    rw [upd_same, upd_same]
  · rw [upd_ne e, upd_ne e, upd_ne e]
theorem zip_inj : ∀ {ns : List Str} {a b : List V}, a.length = ns.length → b.length = ns.length → ns.zip a = ns.zip b → a = b
  | [], [], [], _, _, _ => rfl
  | n :: ns, x :: a, y :: b, h1, h2, e => by
    rw [List.zip_cons_cons, List.zip_cons_cons] at e
    obtain ⟨e1, e2⟩ := List.cons.inj e
    rw [(Prod.mk.inj e1).2, zip_inj (by simpa using h1) (by simpa using h2) e2]
  | [], _ :: _, _, h, _, _ => by cases h
  | [], [], _ :: _, _, h, _ => by cases h
  | _ :: _, [], _, h, _, _ => by cases h
  | _ :: _, _ :: _, [], _, h, _ => by cases h
/-- o.f = e, f a field -/
theorem go_fld {C p : Addr} {ns : List Str} {fs : List Cell} {f : Str} {k i : Nat} (hv : Ev tv cs R) (he : Ev ta cs (Is (cV (.ref p)))) (hk : cs[k]? = some (cIns C p ns fs)) (hi : ixF f ns = i) (hin : i < ns.length) (hil : i < fs.length) (hn : ns.length < 1000) (cl : Cls K C) (na : NoAttr K C f)
    (kk : ∀ c, R c → Go B0 F0 (cs.set k (cIns C p ns (fs.set i c))) D.nx) : Go B0 F0 cs (sFld K ta tv f D) := fun σ H S =>
  hv B0 F0 [] [] σ H rfl S _ fun c v H1 r S1 => he B0 F0 [c] [some v] σ H1 rfl S1 _ fun c2 x H2 r2 S2 => by
    subst r2
    have ex := S2.pin (i := 0) cV_pin rfl
    cases (Option.some.inj (Option.some.inj ex))
    obtain ⟨dx, vals, h1, h2, h3, h4⟩ := Sim.field (k := k) S2.pop hk hil
    refine ⟨p, C, dx, _, rfl, h1, cl, na, by rw [List.length_zip]; omega, ?_⟩
    rw [putF_zip hi hin h2]
    exact kk c r σ _ h4
/-- o.f = e, f a new field -/
theorem go_fldNew {C p : Addr} {ns : List Str} {fs : List Cell} {f : Str} {k : Nat} (hv : Ev tv cs R) (he : Ev ta cs (Is (cV (.ref p)))) (hk : cs[k]? = some (cIns C p ns fs)) (hi : f ∉ ns) (hln : ixF f (ns ++ [f]) = ns.length) (hl : fs.length = ns.length) (hn : ns.length < 1000) (cl : Cls K C) (na : NoAttr K C f)
    (kk : ∀ c, R c → Go B0 F0 (cs.set k (cIns C p (ns ++ [f]) (fs ++ [c]))) D.nx) : Go B0 F0 cs (sFld K ta tv f D) := fun σ H S =>
  hv B0 F0 [] [] σ H rfl S _ fun c v H1 r S1 => he B0 F0 [c] [some v] σ H1 rfl S1 _ fun c2 x H2 r2 S2 => by
    subst r2
    have ex := S2.pin (i := 0) cV_pin rfl
    cases (Option.some.inj (Option.some.inj ex))
    have S3 : Sim B0 F0 (c :: cs) (some v :: σ) H2 := S2.pop
    obtain ⟨w, B, F, mid, e1, e2, dj, nd, ⟨dx, vals, f2, h1, h2, h3, h4, h5, h6⟩, _, _, back⟩ := S3.openAt (k := k + 1) (by rw [List.getElem?_cons_succ]; exact hk)
    subst h1
    have pH : H2 p = some (.ins C dx (ns.zip vals)) := by rw [e2]; exact pl_F h3
    refine ⟨p, C, dx, _, rfl, pH, cl, na, by rw [List.length_zip]; omega, ?_⟩
    have S4 := back B (upd F p (.ins C dx ((ns ++ [f]).zip (vals ++ [.non])))) (cIns C p (ns ++ [f]) (fs ++ [cNo])) (p :: f2) (fun _ _ e => e) (dj_updF dj (dj p _ h3))
      ⟨dx, vals ++ [.non], f2 ++ [], by rw [List.append_nil], h2, upd_same, by simp [h4], by rw [List.append_nil]; exact h5, by
        rw [List.map_append]
        exact (h6.loc (F' := upd F p _) fun a m => upd_ne fun z => h5 (by rw [← z]; exact m)).app (f2 := []) (Holds.cons (f1 := []) (f2 := []) rfl rfl)⟩ nd
      (fun a o e m => ⟨(upd_ne fun z => m (by rw [z]; exact List.mem_cons_self ..)).trans e, m⟩)
    rw [← pl_updF, ← e2, List.set_cons_succ] at S4
    obtain ⟨dx', vals', g1, g2, g3, g4⟩ := Sim.field (k := k) (i := ns.length) (C := C) (p := p) (ns := ns ++ [f]) (fs := fs ++ [cNo]) S4 (by rw [List.getElem?_set_self (List.getElem?_eq_some_iff.mp hk).1]) (by simp [hl])
    rw [upd_same] at g1
    have g1' := Option.some.inj g1
    injection g1' with _ q2 q3
    have ev := zip_inj (by simp [h4]) g2 q3
    subst ev q2
    rw [upd_upd, List.set_set] at g4
    rw [putF_new hi h4]
    have x1 : (vals ++ [V.non]).set ns.length v = vals ++ [v] := by
      rw [List.set_append_right _ _ (by omega), ← h4, Nat.sub_self]
      rfl
    have x2 : (fs ++ [cNo]).set ns.length c = fs ++ [c] := by
      rw [List.set_append_right _ _ (by omega), ← hl, Nat.sub_self]
      rfl
    rw [x1, x2] at g4
    exact kk c r σ _ g4
theorem map_some_get {vals : List V} {i : Nat} {x : Option V} (h : (vals.map some)[i]? = some x) : ∃ y, x = some y ∧ vals[i]? = some y := by
  rw [List.getElem?_map] at h
  cases e : vals[i]? with
  | none => rw [e] at h; cases h
  | some u => rw [e] at h; exact ⟨u, (Option.some.inj h).symm, rfl⟩
/-- o.f.append(e) -/
theorem go_fldAppend {C p l : Addr} {ns : List Str} {fs : List Cell} {ds : List PyData} {f : Str} {k i : Nat} (he : Ev ta cs (Is (cV (.ref p)))) (hk : cs[k]? = some (cIns C p ns fs)) (hi : ixF f ns = i) (hc : fs[i]? = some (cOwn K l ds)) (cl : Cls K C) (na : NoAttr K C f)
    (h : Ev te cs (Is (cD K d))) (hz : ds.length < 100000) (kk : Go B0 F0 (cs.set k (cIns C p ns (fs.set i (cOwn K l (ds ++ [d]))))) D.nx) : Go B0 F0 cs (tDrop (tBM K "list" rAppend (tFld K ta f) (tCons te tNil)) D) := fun σ H S => by
  unfold tDrop tBM
  refine ev_fldP he hk hi hc cOwn_pin cl na B0 F0 [] [] σ H rfl S _ fun c x H1 r S1 => ?_
  subst r
  have ex := S1.pin (i := 0) cV_pin rfl
  cases (Option.some.inj (Option.some.inj ex))
  obtain ⟨w, B, F, mid, e1, e2, dj, nd, ⟨dx, vals, f2, h1, h2, h3, h4, h5, h6⟩, _, _, _⟩ := Sim.openAt (k := k) (cs := cs) S1.pop hk
  obtain ⟨_, _, _, _, _, _, ⟨_, _, vs, q1, q2⟩, _⟩ := Holds.get h6 hc
  refine ⟨.inl ⟨rfl, vs, SqL.of (by rw [e2]; exact pl_F q1)⟩, h B0 F0 [cV (.ref l)] [some (.ref l)] σ H1 rfl S1 _ fun c2 v H2 r2 S2 => ?_⟩
  subst r2
  have S3 : Sim B0 F0 (cD K d :: cs) (some v :: σ) H2 := S2.swap.pop
  obtain ⟨w, B, F, mid, e1, e2, dj, nd, ⟨dx, vals, f2, h1, h2, h3, h4, h5, h6⟩, _, rd, back⟩ := S3.openAt (k := k + 1) (by rw [List.getElem?_cons_succ]; exact hk)
  obtain ⟨z, ez, rz⟩ := rd 0 d rfl
  cases (Option.some.inj (Option.some.inj ez))
  obtain ⟨y, pre, m2, post, g1, g2, ⟨em, ey, vs, q1, q2⟩, hh⟩ := Holds.get h6 hc
  subst h1
  subst g2
  subst em
  have pl' : p ≠ l := fun z => h5 (by rw [z]; simp)
  refine ⟨l, vs, v, rfl, rfl, by rw [e2]; exact pl_F q1, by rw [dpAll_len q2]; exact sz_lt hz, ?_⟩
  have nn : (pre ++ [l] ++ post).Nodup := (nodup_cons' nd).2
  have npre : ∀ a ∈ pre ++ post, a ≠ l := fun a m z => by
    subst z
    rcases List.mem_append.mp m with m | m
    · exact (List.nodup_append.mp (List.nodup_append.mp nn).1).2.2 a m a (by simp) rfl
    · exact (List.nodup_append.mp nn).2.2 a (by simp) a m rfl
  let F' : Hp := upd F l (.lst (vs ++ [v]))
  have r0 : Holds B F (fs.set i cNo) ((vals.map some).set i y) (pre ++ [] ++ post) := hh cNo y [] rfl
  have r1 : Holds B F' (fs.set i cNo) ((vals.map some).set i y) (pre ++ [] ++ post) := r0.loc fun a m => upd_ne (npre a (by simpa using m))
  have hl : i < fs.length := (List.getElem?_eq_some_iff.mp hc).1
  obtain ⟨w2, pre2, mid2, post2, e3, e4, ok2, hh2⟩ := Holds.get (i := i) (c := cNo) r1 (by rw [List.getElem?_set_self hl])
  have em : mid2 = [] := ok2
  subst em
  have r2 := hh2 (cOwn K l (ds ++ [d])) (some (.ref l)) [l] ⟨rfl, rfl, vs ++ [v], upd_same, dpAll_app q2 rz⟩
  have hs : i < (vals.map some).length := (List.getElem?_eq_some_iff.mp g1).1
  have e0 : (vals.map some)[i] = some (.ref l) := by
    have q := g1
    rw [List.getElem?_eq_getElem hs, ey] at q
    exact Option.some.inj q
  rw [List.set_set, List.set_set, ← e0, List.set_getElem_self] at r2
  have ep : pre ++ post = pre2 ++ post2 := by simpa using e4
  have pm : (p :: (pre2 ++ [l] ++ post2)).Perm (p :: (pre ++ [l] ++ post)) := by
    refine List.Perm.cons _ ?_
    have p1 : (pre2 ++ [l] ++ post2).Perm ([l] ++ (pre2 ++ post2)) := by
      rw [← List.append_assoc]
      exact List.Perm.append_right _ List.perm_append_comm
    have p2 : (pre ++ [l] ++ post).Perm ([l] ++ (pre ++ post)) := by
      rw [← List.append_assoc]
      exact List.Perm.append_right _ List.perm_append_comm
    rw [← ep] at p1
    exact p1.trans p2.symm
  have S4 := back B F' (cIns C p ns (fs.set i (cOwn K l (ds ++ [d])))) (p :: (pre2 ++ [l] ++ post2)) (fun _ _ e => e) (dj_updF dj (dj l _ q1))
    ⟨dx, vals, _, rfl, h2, (upd_ne pl').trans h3, h4, fun m => (nodup_cons' (pm.nodup_iff.mpr nd)).1 m, r2⟩ (pm.nodup_iff.mpr nd)
    (fun a o e m => ⟨(upd_ne fun z => m (by rw [z]; simp)).trans e, fun z => m (pm.mem_iff.mp z)⟩)
  rw [← pl_updF, ← e2, List.set_cons_succ] at S4
  exact kk σ _ S4.pop
theorem res_tail {I : Type} {A : I → List Cell} {Po : I → List Cell → Cell → Prop} {E : XK} {c : Cell} {x : V} {as : List Cell} {ws : List V} {Rx : Cell → List Cell → Prop} {i : I} {k : Nat} {Q : VK} (hk : cs[k]? = some c) (hp : c.Pin x) (hA : A i = c :: as) (hl : us.length = ts.length) (hw : ws.length = as.length)
    (hr : ∀ cs' c', Po i cs' c' → ∃ c2, c2.Pin x ∧ cs' = c2 :: as.map (fun _ => cNo) ∧ Rx c' (cs.set k c2)) (S1 : Sim B0 F0 (cV x :: (as ++ (ts ++ cs))) (some x :: (ws.map some ++ (us ++ σ))) H)
    (q : ∀ c v cs' H', Rx c cs' → Sim B0 F0 (c :: (ts ++ cs')) (some v :: (us ++ σ)) H' → Q v H') : spR A Po (x :: ws) H Q E := by
  have S2 := Sim.lend (cs := cs) (σ := σ) hp hk hl (xs := as) (ys := ws.map some) (by rw [List.length_map, hw]) S1
  have hx : σ[k]? = some (some x) := by
    have S0 : Sim B0 F0 (ts ++ cs) (us ++ σ) H := Sim.drop (xs := as) (ys := ws.map some) (by rw [List.length_map, hw]) S1.pop
    have hk' : (ts ++ cs)[ts.length + k]? = some c := by rw [at_ts rfl]; exact hk
    have z := S0.pin hp hk'
    rw [at_ts hl.symm] at z
    exact z
  refine call_sim (ts := ts ++ cs.set k cNo) (us := us ++ σ) i (by rw [hA]; simp [hw]) (by rw [hA]; exact S2) fun v cs' c' H' po S3 => ?_
  obtain ⟨c2, p2, e2, rx⟩ := hr cs' c' po
  subst e2
  have S4 := Sim.giveBack (cs := cs.set k cNo) (σ := σ) (k := k) (xs := as.map fun _ => cNo) (ys := ws.map some) p2 (by rw [List.length_set]; exact (List.getElem?_eq_some_iff.mp hk).1) hx hl (by rw [List.length_map, List.length_map, hw]) S3
  rw [List.set_set] at S4
  exact q c' v _ H' rx S4
/-- f(o, ..), told by a property -/
theorem ev_callRN {I : Type} {A : I → List Cell} {Po : I → List Cell → Cell → Prop} {E : XK} {ta : TA} {c : Cell} {x : V} {Rx : Cell → List Cell → Prop} (k : Nat) (hk : cs[k]? = some c) (hp : c.Pin x) (P : I → List Cell → Prop) (hA : ∀ i as, P i as → A i = c :: as)
    (h : EvA ta cs (fun as => ∃ i ds, as = cV x :: ds ∧ P i ds)) (hr : ∀ i as cs' c', P i as → Po i cs' c' → ∃ c2, c2.Pin x ∧ cs' = c2 :: as.map (fun _ => cNo) ∧ Rx c' (cs.set k c2)) : EvX (tCall (spR A Po) [] E ta) cs Rx := fun B0 F0 ts us σ H hl S Q q =>
  h B0 F0 ts us σ H hl S _ fun as vs H1 ⟨i, ds, r, p⟩ hv S1 => by
    subst r
    show spR _ _ (vs ++ []) H1 Q E
    rw [List.append_nil]
    match vs, hv with
    | y :: ws, hv =>
      have hv' : ws.length = ds.length := by simpa using hv
      have ey := Sim.pin (cs := cV x :: (ds ++ (ts ++ cs))) (σ := some y :: (ws.map some ++ (us ++ σ))) (i := 0) cV_pin S1 rfl
      cases (Option.some.inj (Option.some.inj ey))
      exact res_tail hk hp (hA i ds p) hl hv' (fun cs' c' po => hr i ds cs' c' p po) S1 q
/-- o.m(..) -/
theorem ev_methN {I : Type} {A : I → List Cell} {Po : I → List Cell → Cell → Prop} {E : XK} {t : TA} {C p : Addr} {ns : List Str} {fs : List Cell} {m : Str} {Rx : Cell → List Cell → Prop} (k : Nat) (hk : cs[k]? = some (cIns C p ns fs)) (hm : m ∉ ns) (P : I → List Cell → Prop) (hA : ∀ i as, P i as → A i = cIns C p ns fs :: as)
    (he : Ev ta cs (Is (cV (.ref p)))) (h : EvA t cs (fun as => ∃ i, P i as)) (hr : ∀ i as cs' c', P i as → Po i cs' c' → ∃ c2, c2.Pin (.ref p) ∧ cs' = c2 :: as.map (fun _ => cNo) ∧ Rx c' (cs.set k c2)) : EvX (tMeth C m (spR A Po) [] E ta t) cs Rx := fun B0 F0 ts us σ H hl S Q q =>
  he B0 F0 ts us σ H hl S _ fun c x H1 r1 S1 => by
    subst r1
    have ex := S1.pin (i := 0) cV_pin rfl
    cases (Option.some.inj (Option.some.inj ex))
    have hk' : (ts ++ cs)[ts.length + k]? = some (cIns C p ns fs) := by rw [at_ts rfl]; exact hk
    obtain ⟨w, B, F, mid, e1, e2, dj, nd, ⟨dx, vals, f2, h1, h2, h3, h4, h5, h6⟩, _, _, _⟩ := S1.pop.openAt hk'
    refine ⟨p, dx, _, rfl, by rw [e2]; exact pl_F h3, zip_none hm, ?_⟩
    refine h B0 F0 (cV (.ref p) :: ts) (some (.ref p) :: us) σ H1 (congrArg (· + 1) hl) S1 _ fun as vs H2 ⟨i, pi⟩ hv S2 => ?_
    show spR _ _ (.ref p :: (vs ++ [])) H2 Q E
    rw [List.append_nil]
    have S3 := Sim.front (xs := as) (ys := vs.map some) (c := cV (.ref p)) (cs := ts ++ cs) (by rw [List.length_map]; exact hv) S2
    exact res_tail hk cIns_pin (hA i as pi) hl hv (fun cs' c' po => hr i as cs' c' pi po) S3 q
/-- C(..) -/
theorem ev_make {I : Type} {A : I → List Cell} {Po : I → List Cell → Cell → Prop} {E : XK} {t : TA} {C : Addr} {as : List Cell} (i : Addr → I) (hA : ∀ p, A (i p) = cIns C p [] [] :: as) (h : EvA t cs (fun x => x = as))
    (hr : ∀ p cs' c', Po (i p) cs' c' → c' = cN K ∧ ∃ c2, c2.Pin (.ref p) ∧ cs' = c2 :: as.map (fun _ => cNo) ∧ R c2) : Ev (tMake C (spR A Po) [] E t) cs R := fun B0 F0 ts us σ H hl S Q q =>
  h B0 F0 ts us σ H hl S _ fun as' vs H1 r hv S1 => by
    subst r
    intro x dx hx hdx ne
    show spR A Po (.ref x :: (vs ++ [])) _ _ E
    rw [List.append_nil]
    obtain ⟨S2, _⟩ := S1.junk (K := K) (o := .own x) hdx
    have hx2 : upd H1 dx (.own x) x = none := by rw [upd_ne ne.symm]; exact hx
    -- the new instance is owned
    have S3 : Sim B0 F0 (cIns C x [] [] :: (as' ++ (ts ++ cs))) (some (.ref x) :: (vs.map some ++ (us ++ σ))) (upd (upd H1 dx (.own x)) x (.ins C dx [])) := by
      obtain ⟨B, F, fp, h1, h2, h3, h4, h5, h6⟩ := S2
      rw [h1] at hx2 ⊢
      obtain ⟨pF, pB⟩ := pl_none hx2
      have np : x ∉ fp := fun m => h4.dom x m pF
      refine ⟨B, upd F x (.ins C dx []), x :: fp, pl_updF, dj_updF h2 pB, h3, ⟨[x], fp, rfl, ⟨dx, [], [], rfl, rfl, upd_same, rfl, by simp, rfl⟩, h4.loc fun a m => upd_ne fun z => np (z ▸ m)⟩, List.nodup_cons.mpr ⟨np, h5⟩, fun a o e => ?_⟩
      obtain ⟨q1, q2⟩ := h6 a o e
      have na : a ≠ x := fun z => by
        rw [z, pF] at q1
        cases q1
      refine ⟨(upd_ne na).trans q1, fun m => ?_⟩
      rcases List.mem_cons.mp m with z | z
      · exact na z
      · exact q2 z
    refine call_sim (ts := ts ++ cs) (us := us ++ σ) (i x) (by rw [hA]; simp [hv]) (by rw [hA]; exact S3) fun v cs' c' H' po S4 => ?_
    obtain ⟨e1, c2, p2, e2, rx⟩ := hr x cs' c' po
    subst e1 e2
    refine ⟨dp_non (K := K) (Sim.dp (cs := _) S4), q c2 _ H' rx ?_⟩
    exact Sim.cut (xs := as'.map fun _ => cNo) (ys := vs.map some) (by rw [List.length_map, List.length_map, hv]) S4.pop
/-- f(..) of data, told by a property -/
theorem ev_callN {I : Type} {A : I → List PyData} {f : I → PyData} {E : XK} {ta : TA} {P : I → Prop} (h : EvA ta cs (fun as => ∃ i, as = (A i).map (cD K) ∧ P i)) : Ev (tCall (spD K A f) [] E ta) cs (fun c => ∃ i, c = cD K (f i) ∧ P i) := fun B0 F0 ts us σ H hl S Q q =>
  h B0 F0 ts us σ H hl S _ fun as vs H1 ⟨i, r, p⟩ hv S1 => by
    subst r
    show spR _ _ (vs ++ []) H1 Q E
    rw [List.append_nil]
    refine call_sim i hv S1 fun v cs' c' H' ⟨e1, e2⟩ S2 => ?_
    subst e1 e2
    exact q _ v H' ⟨i, rfl, p⟩ (Sim.cut (xs := (A i).map fun _ => cNo) (ys := vs.map some) (by rw [List.length_map, List.length_map, hv, List.length_map]) S2)
/-- a def held by a slot -/
theorem ev_callL {i : Nat} {f : Addr} {sp : Sp} {dvs : List V} {E : XK} {t : TA} (hi : cs[i]? = some (cV (.ref f))) (h : Ev (tCall sp dvs E t) cs R) : Ev (tCallL i f sp dvs E t) cs R := fun B0 F0 ts us σ H hl S Q q => by
  have hi' : (ts ++ cs)[ts.length + i]? = some (cV (.ref f)) := by rw [at_ts rfl]; exact hi
  have z := S.pin cV_pin hi'
  rw [at_ts hl.symm] at z
  exact ⟨z, h B0 F0 ts us σ H hl S Q q⟩
theorem spR_len {I : Type} {A : I → List Cell} {Po : I → List Cell → Cell → Prop} {n : Nat} (hn : ∀ i, (A i).length = n) {vs : List V} {H : Hp} {Q : VK} {E : XK} (h : spR A Po vs H Q E) : vs.length = n := by
  obtain ⟨i, B, F, fp, _, _, h3, _⟩ := h
  have z := h3.len
  rw [List.length_map, hn] at z
  exact z
theorem spD_len {I : Type} {A : I → List PyData} {f : I → PyData} {n : Nat} (hn : ∀ i, (A i).length = n) {vs : List V} {H : Hp} {Q : VK} {E : XK} (h : spD K A f vs H Q E) : vs.length = n := spR_len (fun i => by rw [List.length_map]; exact hn i) h
/-- a def of *v alone -/
theorem spD_star {I : Type} {A : I → List PyData} {f : I → PyData} (hn : ∀ i, (A i).length ≤ 100) {vs : List V} {H : Hp} {Q : VK} {E : XK} (h : spD K A f vs H Q E) :
    ∃ ws rest, vs = ws ++ rest ∧ ws.length = ([] : List Str).length ∧ rest.length ≤ sizeLine ∧ ∀ p, H p = Option.none → spD K (fun i => [.tuple (A i)]) f (ws ++ [V.ref p]) (upd H p (.tup rest)) Q E := by
  have hlen : ∃ i, vs.length = (A i).length := by
    obtain ⟨i, B, F, fp, _, _, h3, _⟩ := h
    have z := h3.len
    rw [List.length_map, List.length_map] at z
    exact ⟨i, z⟩
  obtain ⟨i0, hl0⟩ := hlen
  refine ⟨[], vs, rfl, rfl, by rw [hl0]; exact sz_of (Nat.le_trans (hn i0) (by decide)), fun p hp => ?_⟩
  obtain ⟨i, B, F, fp, h1, h2, h3, h4, h5⟩ := h
  subst h1
  obtain ⟨pF, pB⟩ := pl_none hp
  obtain ⟨hd, ef⟩ := holds_ds h3
  subst ef
  refine ⟨i, upd B p (.tup vs), F, [], pl_updB pF, dj_updB h2 pF, ⟨[], [], rfl, ⟨rfl, _, rfl, .tup (SqT.of upd_same) (dpAll_same (same_upd pB) hd)⟩, rfl⟩, List.nodup_nil, ?_⟩
  intro v B' F' cs' c' fp' ⟨e1, e2⟩ sB dj hh nd hk
  subst e1 e2
  obtain ⟨f1, f2, ef, hc, f3, f4, ef2, hn2, hnil⟩ := hh
  have z4 : f4 = [] := hnil
  have z3 : f3 = [] := hn2
  subst z4 z3 ef2
  have z1 : f1 = [] := hc.1
  subst z1 ef
  refine h5 v B' F' ((A i).map fun _ => cNo) _ [] ⟨rfl, rfl⟩ ((same_upd pB).trans sB) dj ⟨[], [], rfl, hc, ?_⟩ List.nodup_nil fun a o e m => hk a o e m
  have z := Holds.none (B := B') (F := F') (n := (A i).length) (σ := vs.map some) (by rw [List.length_map, dpAll_len hd])
  rw [List.map_const']
  exact z
end
section
variable {X : Cx} {CX : CXT} {k : Nat} {f : Addr} {sp : Sp} {E : XK} {x : Str} {e : Expr} {es : List Expr} {t : TA} {p pos : Pos}
/-- x(e, ..), x a def of the module by a positional promise -/
theorem pe_callRS (F : FnR X.prog X.w X.K X.mg X.base CX k f sp) (hr : Room k X.A) (hg : Gl X x) (hm : X.mg x = some (.ref f)) (hk : PySem.W.keepIn X.K (.ref f) = true) (hx : Passes CX X E) (ha : PA X (e :: es) t)
    (hdb : (x == ("__debug__" : Str)) = false := by decide) (he : starEach (e :: es) X.env = (false, eval e X.env) :: starEach es X.env := by rfl) (hpl : (backTo pos (starEach es X.env)).any (·.1) = false := by rfl) :
    PE X (.Call (.Name x p) (e :: es) [] pos) (tCall sp [] E t) := by
  refine ⟨fun pins s σ H Q I h => ?_⟩
  refine wpAny_Call_Name_kw (ld_glob I hg hm ?_ hdb)
  refine PySem.W.callWith_K (h₀ := X.base) I.ok.mod.kin hk (thn (ha.run pos pins s σ H _ I h) fun us s1 ⟨vs, H1, I1, r, q⟩ => ⟨I1.kIn, ?_⟩) he hpl
  refine wpAny_call (run_fnR F hr hx I1 r ?_)
  have q' : sp (vs ++ []) H1 Q E := q
  rw [List.append_nil] at q'
  exact q'
end
theorem sh_cons {d : PyData} {ds : List PyData} (hd : d.canLay0 = true) (hs : PyData.canLayAll0 ds = true) : PyData.canLayAll0 (d :: ds) = true := by
  show (d.canLay0 && PyData.canLayAll0 ds) = true
  rw [hd, hs]
  rfl
theorem lay_ints : ∀ ns : List Int, PyData.canLayAll0 (ns.map .int) = true ∧ PyData.depthAll (ns.map .int) ≤ 1
  | [] => ⟨rfl, by decide⟩
  | n :: ns => ⟨sh_cons rfl (lay_ints ns).1, by
    have q := (lay_ints ns).2
    show max (PyData.depth (.int n)) (PyData.depthAll (ns.map .int)) ≤ 1
    exact Nat.max_le.mpr ⟨Nat.zero_le _, q⟩⟩
theorem sh_ints (ns : List Int) : SeqAt.shaped (lI ns) = true := by
  have q := lay_ints ns
  show (PyData.canLayAll0 (ns.map .int) && decide (PyData.depthAll (ns.map .int) + 1 ≤ 64)) = true
  rw [q.1, Bool.true_and]
  exact decide_eq_true (by omega)
theorem sh_intsT (ns : List Int) : SeqAt.shaped (tI ns) = true := by
  have q := lay_ints ns
  show (PyData.canLayAll0 (ns.map .int) && decide (PyData.depthAll (ns.map .int) + 1 ≤ 64)) = true
  rw [q.1, Bool.true_and]
  exact decide_eq_true (by omega)
def cDeal (a b : Addr) (ns : List Int) (z : Int) : Cell where
  ok := fun v B F fp => fp = [a, b] ∧ v = some (.ref a) ∧ F a = some (.lst [.ref b, .int z]) ∧ F b = some (.lst (ns.map V.int))
  mono := fun _ h => h
  loc := fun k ⟨h1, h2, h3, h4⟩ => ⟨h1, h2, (k a (by rw [h1]; simp)).trans h3, (k b (by rw [h1]; simp)).trans h4⟩
  dom := fun ⟨h1, h2, h3, h4⟩ x m => by
    rw [h1] at m
    rcases List.mem_cons.mp m with e | e
    · rw [e, h3]; exact fun z => nomatch z
    · rw [List.mem_singleton.mp e, h4]; exact fun z => nomatch z
theorem cDeal_pin {a b : Addr} {ns : List Int} {z : Int} : (cDeal a b ns z).Pin (.ref a) := fun _ _ _ _ h => h.2.1
/-- .. of which no more is said than what stays -/
def cDl (a b : Addr) : Cell where
  ok := fun v B F fp => ∃ ns z, (cDeal a b ns z).ok v B F fp ∧ (∀ n ∈ ns, 0 ≤ n) ∧ ns.length ≤ 48 ∧ 0 ≤ z ∧ z < 2147483647
  mono := fun _ h => h
  loc := fun k ⟨ns, z, h, r⟩ => ⟨ns, z, (cDeal a b ns z).loc k h, r⟩
  dom := fun ⟨ns, z, h, r⟩ => (cDeal a b ns z).dom h
theorem cDl_pin {a b : Addr} : (cDl a b).Pin (.ref a) := fun _ _ _ _ ⟨_, _, h, _⟩ => h.2.1
section
variable {K : PySem.W.Frag} {B0 F0 H : Hp} {cs ts : List Cell} {us σ : List (Option V)} {c : Cell} {te ta tb : TE} {D : Ends} {a b : Addr} {ns : List Int} {z : Int}
theorem Sim.dealAt {k : Nat} (S : Sim B0 F0 cs σ H) (hk : cs[k]? = some (cDeal a b ns z)) : σ[k]? = some (some (.ref a)) ∧ H a = some (.lst [.ref b, .int z]) ∧ H b = some (.lst (ns.map V.int)) ∧
    (∀ ns', Sim B0 F0 (cs.set k (cDeal a b ns' z)) σ (upd H b (.lst (ns'.map V.int)))) ∧ ∀ z', Sim B0 F0 (cs.set k (cDeal a b ns z')) σ (upd H a (.lst [.ref b, .int z'])) := by
  obtain ⟨w, B, F, mid, e1, e2, dj, nd, ⟨h1, h2, h3, h4⟩, _, _, back⟩ := S.openAt hk
  subst h1 h2
  have nab : a ≠ b := fun z => by
    subst z
    simp at nd
  refine ⟨e1, by rw [e2]; exact pl_F h3, by rw [e2]; exact pl_F h4, fun ns' => ?_, fun z' => ?_⟩
  · rw [e2, pl_updF]
    exact back B _ _ [a, b] (fun _ _ e => e) (dj_updF dj (dj b _ h4)) ⟨rfl, rfl, (upd_ne nab).trans h3, upd_same⟩ nd fun x o e m => ⟨(upd_ne fun z => m (by rw [z]; simp)).trans e, m⟩
  · rw [e2, pl_updF]
    exact back B _ _ [a, b] (fun _ _ e => e) (dj_updF dj (dj a _ h3)) ⟨rfl, rfl, upd_same, (upd_ne nab.symm).trans h4⟩ nd fun x o e m => ⟨(upd_ne fun z => m (by rw [z]; simp)).trans e, m⟩
/-- what a cell tells, less is told -/
theorem Sim.wk {k : Nat} {c' : Cell} (S : Sim B0 F0 cs σ H) (hk : cs[k]? = some c) (h : ∀ v B F fp, c.ok v B F fp → c'.ok v B F fp) : Sim B0 F0 (cs.set k c') σ H := by
  obtain ⟨w, B, F, mid, e1, e2, dj, nd, ok, _, _, back⟩ := S.openAt hk
  rw [e2]
  exact back B F c' mid (fun _ _ e => e) dj (h _ _ _ _ ok) nd fun x o e m => ⟨e, m⟩
theorem go_dl {k : Nat} {T : L2.St → Hp → Prop} (hk : cs[k]? = some (cDl a b)) (h : ∀ ns z, (∀ n ∈ ns, 0 ≤ n) → ns.length ≤ 48 → 0 ≤ z → z < 2147483647 → Go B0 F0 (cs.set k (cDeal a b ns z)) T) : Go B0 F0 cs T := fun σ H S => by
  obtain ⟨w, B, F, mid, e1, e2, dj, nd, ⟨ns, z, ok, r1, r2, r3, r4⟩, _, _, back⟩ := S.openAt hk
  refine h ns z r1 r2 r3 r4 σ H ?_
  rw [e2]
  exact back B F _ mid (fun _ _ e => e) dj ok nd fun x o e m => ⟨e, m⟩
theorem ev_deal0 {k : Nat} (hk : cs[k]? = some (cDeal a b ns z)) (hb : Ev tb cs (Is (cI K 0))) : Ev (tOp (rIxL K) (tVar k) tb) cs (Is (cV (.ref b))) :=
  ev_op2 (ev_varP hk cDeal_pin) hb fun c1 c2 r1 r2 B0 F0 ts us σ H x y hl S Q q => by
    subst r1 r2
    have ey := dp_int S.dp
    have ex := S.pop.pin (i := 0) cV_pin rfl
    cases (Option.some.inj (Option.some.inj ex))
    have S0 : Sim B0 F0 (ts ++ cs) (us ++ σ) H := S.pop.pop
    have hk' : (ts ++ cs)[ts.length + k]? = some (cDeal a b ns z) := by rw [at_ts rfl]; exact hk
    obtain ⟨_, g1, g2, _, _⟩ := S0.dealAt hk'
    exact ⟨a, [.ref b, .int z], 0, .ref b, rfl, ey, SqL.of g1, rfl, q _ _ H rfl S0.pushV⟩
theorem ev_deal1 {k : Nat} (hk : cs[k]? = some (cDeal a b ns z)) (hb : Ev tb cs (Is (cI K 1))) : Ev (tOp (rIxL K) (tVar k) tb) cs (Is (cI K z)) :=
  ev_op2 (ev_varP hk cDeal_pin) hb fun c1 c2 r1 r2 B0 F0 ts us σ H x y hl S Q q => by
    subst r1 r2
    have ey := dp_int S.dp
    have ex := S.pop.pin (i := 0) cV_pin rfl
    cases (Option.some.inj (Option.some.inj ex))
    have S0 : Sim B0 F0 (ts ++ cs) (us ++ σ) H := S.pop.pop
    have hk' : (ts ++ cs)[ts.length + k]? = some (cDeal a b ns z) := by rw [at_ts rfl]; exact hk
    obtain ⟨_, g1, g2, _, _⟩ := S0.dealAt hk'
    exact ⟨a, [.ref b, .int z], 1, .int z, rfl, ey, SqL.of g1, rfl, q _ _ H rfl (S0.pushD fun _ => .int z)⟩
/-- deal[0] != [] -/
theorem ev_dealNe {k : Nat} {tl : TE} (hk : cs[k]? = some (cDeal a b ns z)) (ha : Ev ta cs (Is (cV (.ref b)))) (hl0 : Ev tl cs (isO K [])) : Ev (tOp (rNeD K) ta tl) cs (Is (cB K (!decide (ns = [])))) :=
  ev_op2 ha hl0 fun c1 c2 r1 ⟨l, r2⟩ B0 F0 ts us σ H x y hl S Q q => by
    subst r1 r2
    have ex := S.pop.pin (i := 0) cV_pin rfl
    cases (Option.some.inj (Option.some.inj ex))
    have S0 : Sim B0 F0 (ts ++ cs) (us ++ σ) H := S.pop.pop
    have hk' : (ts ++ cs)[ts.length + k]? = some (cDeal a b ns z) := by rw [at_ts rfl]; exact hk
    obtain ⟨_, g1, g2, _, _⟩ := S0.dealAt hk'
    obtain ⟨ey, vs, q1, q2⟩ := S.own
    subst ey
    refine ⟨.list (ns.map .int), .list [], .lst (SqL.of g2) (ints_dpAll ns), .lst (SqL.of q1) q2, ?_, ?_, ?_⟩
    · show SeqAt.shaped (.list (ns.map .int)) = true
      exact sh_ints ns
    · rfl
    · have e : PyData.eqv (.list (ns.map .int)) (.list []) = decide (ns = []) := by
        cases ns with
        | nil => rfl
        | cons n ns => rfl
      rw [e]
      exact q _ _ H rfl (S0.pushD fun _ => .bl _)
end
end Z
namespace Z
open PySem L2 StX
section
variable {K : PySem.W.Frag} {B0 F0 H : Hp} {cs ts : List Cell} {us σ : List (Option V)} {c : Cell} {te ta tb : TE} {D : Ends} {a b : Addr} {ns : List Int} {z : Int}
/-- what stands in front is the deal's inner list: the state behind it -/
theorem Sim.dealIn {k : Nat} {x : V} (hk : cs[k]? = some (cDeal a b ns z)) (hl : us.length = ts.length) (S : Sim B0 F0 (cV (.ref b) :: (ts ++ cs)) (some x :: (us ++ σ)) H) : x = .ref b ∧ H b = some (.lst (ns.map V.int)) ∧ Sim B0 F0 (ts ++ cs) (us ++ σ) H := by
  have ex := S.pin (i := 0) cV_pin rfl
  cases (Option.some.inj (Option.some.inj ex))
  have hk' : (ts ++ cs)[ts.length + k]? = some (cDeal a b ns z) := by rw [at_ts rfl]; exact hk
  obtain ⟨_, g1, g2, _, _⟩ := S.pop.dealAt hk'
  exact ⟨rfl, g2, S.pop⟩
/-- deal[0][i] -/
theorem ev_dealIx {k : Nat} {i n : Int} (hk : cs[k]? = some (cDeal a b ns z)) (ha : Ev ta cs (Is (cV (.ref b)))) (hb : Ev tb cs (Is (cI K i))) (hi : atI (ns.map V.int) i = some (.int n)) : Ev (tOp (rIxL K) ta tb) cs (Is (cI K n)) :=
  ev_op2 ha hb fun c1 c2 r1 r2 B0 F0 ts us σ H x y hl S Q q => by
    subst r1 r2
    have ey := dp_int S.dp
    obtain ⟨ex, g, S0⟩ := Sim.dealIn hk hl S.pop
    subst ex
    exact ⟨b, _, i, .int n, rfl, ey, SqL.of g, hi, q _ _ H rfl (S0.pushD fun _ => .int n)⟩
/-- deal[0].pop() -/
theorem ev_dealPop {k : Nat} {n : Int} (hk : cs[k]? = some (cDeal a b ns z)) (ha : Ev ta cs (Is (cV (.ref b)))) (hi : ns[ns.length - 1]? = some n) : EvX (tBM0 K "list" rPop ta) cs (fun c cs' => c = cI K n ∧ cs' = cs.set k (cDeal a b ns.dropLast z)) := fun B0 F0 ts us σ H hl S Q q =>
  ha B0 F0 ts us σ H hl S _ fun c x H1 r S1 => by
    subst r
    obtain ⟨ex, g, S0⟩ := Sim.dealIn hk hl S1
    subst ex
    have hk' : (ts ++ cs)[ts.length + k]? = some (cDeal a b ns z) := by rw [at_ts rfl]; exact hk
    refine ⟨.inl ⟨rfl, _, SqL.of g⟩, b, _, .int n, rfl, rfl, g, ?_, q _ _ _ _ ⟨rfl, rfl⟩ ?_⟩
    · rw [List.length_map, List.getElem?_map, hi]
      rfl
    · obtain ⟨_, _, _, put, _⟩ := S0.dealAt hk'
      have S2 := put ns.dropLast
      rw [set_app rfl, List.map_dropLast] at S2
      exact S2.pushD fun _ => .int n
/-- deal[0].append(e) -/
theorem go_dealApp {k : Nat} {n : Int} (hk : cs[k]? = some (cDeal a b ns z)) (ha : Ev ta cs (Is (cV (.ref b)))) (h : Ev te cs (Is (cI K n))) (hz : ns.length < 100000) (kk : Go B0 F0 (cs.set k (cDeal a b (ns ++ [n]) z)) D.nx) :
    Go B0 F0 cs (tDrop (tBM K "list" rAppend ta (tCons te tNil)) D) := fun σ H S => by
  unfold tDrop tBM
  refine ha B0 F0 [] [] σ H rfl S _ fun c x H1 r S1 => ?_
  subst r
  obtain ⟨ex, g, S0⟩ := Sim.dealIn (ts := []) (us := []) hk rfl S1
  subst ex
  refine ⟨.inl ⟨rfl, _, SqL.of g⟩, h B0 F0 [] [] σ H1 rfl S0 _ fun c2 v H2 r2 S2 => ?_⟩
  subst r2
  have ev := dp_int S2.dp
  subst ev
  obtain ⟨_, _, g2, put, _⟩ := S2.pop.dealAt hk
  refine ⟨b, _, _, rfl, rfl, g2, by rw [List.length_map]; exact sz_lt hz, ?_⟩
  have S3 := put (ns ++ [n])
  rw [List.map_append] at S3
  exact kk _ _ S3
/-- deal[1] = e -/
theorem go_dealSet {k : Nat} {n : Int} (hk : cs[k]? = some (cDeal a b ns z)) (h : Ev te cs (Is (cI K n))) (hb : Ev tb cs (Is (cI K 1))) (kk : Go B0 F0 (cs.set k (cDeal a b ns n)) D.nx) : Go B0 F0 cs (tAsg te (gSub (tVar k) tb rSetL) D) := fun σ H S =>
  h B0 F0 [] [] σ H rfl S _ fun c1 v H1 r1 S1 => ev_varP hk cDeal_pin B0 F0 [c1] [some v] σ H1 rfl S1 _ fun c2 o H2 r2 S2 => hb B0 F0 [c2, c1] [some o, some v] σ H2 rfl S2 _ fun c3 w H3 r3 S3 => by
    subst r1 r2 r3
    have ew := dp_int S3.dp
    have eo := S3.pin (i := 1) (cV_pin (x := V.ref a)) rfl
    cases (Option.some.inj (Option.some.inj eo))
    have ev := dp_int (Sim.dp S3.pop.pop)
    subst ev
    have S4 : Sim B0 F0 cs σ H3 := Sim.pop (Sim.pop (Sim.pop S3))
    obtain ⟨_, g1, _, _, put⟩ := S4.dealAt hk
    exact ⟨a, _, 1, 1, rfl, ew, g1, rfl, kk _ _ (put n)⟩
end
end Z
namespace Z
open PySem L2 StX HT
section
variable {K : PySem.W.Frag} {B0 F0 H : Hp} {cs ts : List Cell} {us σ : List (Option V)} {c : Cell} {te ta tb : TE} {D : Ends} {d : PyData}
theorem item_ints {ns : List Int} {i : Nat} {c : Cell} (h : itemIs K (ns.map PyData.int) i c) : ∃ x, ns[i]? = some x ∧ c = cD K (.int x) := by
  obtain ⟨d, e1, e2⟩ := h
  rw [List.getElem?_map] at e1
  cases e : ns[i]? with
  | none => rw [e] at e1; cases e1
  | some n =>
    rw [e] at e1
    cases e1
    exact ⟨n, rfl, e2⟩
theorem mem1 {j k : Nat} (h : k ∈ [j]) : k = j := List.mem_singleton.mp h
/-- [te for x in .. if tq] -/
theorem ev_lc1 {α : Type} {wi : TI} {tq : TT} {n j : Nat} {Rc : Nat → Cell → Prop} (xs : List α) (enc : α → PyData) (p : α → Bool) (f : α → PyData) (hi : EvI wi cs n Rc) (hn : n = xs.length) (hR : ∀ i c, Rc i c → ∃ x, xs[i]? = some x ∧ c = cD K (enc x))
    (hv : cs[j]? = some cNo) (hz : xs.length ≤ 99999) (ht : ∀ x ∈ xs, EvT tq (cs.set j (cD K (enc x))) (fun b => b = p x)) (he : ∀ x ∈ xs, p x = true → Ev te (cs.set j (cD K (enc x))) (Is (cD K (f x)))) : Ev (tLc wi (gName j) tq te [j]) cs (isO K ((xs.filter p).map f)) :=
  ev_lcF (js := [j]) xs enc p f hi hn (fun i c _ h => hR i c h) (fun k hk => by rw [mem1 hk]; exact hv) (fun j hj => hj) hz (fun x => cs.set j (cD K (enc x))) (fun x _ => tg_name) (fun x _ => List.length_set ..) (fun x _ k hk => List.getElem?_set_ne fun e => hk (by simp [e])) ht he
/-- [te for x in ..] -/
theorem ev_lc1A {α : Type} {wi : TI} {n j : Nat} {Rc : Nat → Cell → Prop} (xs : List α) (enc : α → PyData) (f : α → PyData) (hi : EvI wi cs n Rc) (hn : n = xs.length) (hR : ∀ i c, Rc i c → ∃ x, xs[i]? = some x ∧ c = cD K (enc x))
    (hv : cs[j]? = some cNo) (hz : xs.length ≤ 99999) (he : ∀ x ∈ xs, Ev te (cs.set j (cD K (enc x))) (Is (cD K (f x)))) : Ev (tLc wi (gName j) tYes te [j]) cs (isO K (xs.map f)) := by
  have q := ev_lc1 (tq := tYes) (K := K) (j := j) (te := te) xs enc (fun _ => true) f hi hn hR hv hz (fun x _ => et_yes) fun x hx _ => he x hx
  rw [List.filter_eq_self.mpr fun _ _ => rfl] at q
  exact q
/-- [te for x, y in ..] -/
theorem ev_lc2A {α : Type} {wi : TI} {n j1 j2 : Nat} {Rc : Nat → Cell → Prop} (xs : List α) (d1 d2 : α → PyData) (f : α → PyData) (hi : EvI wi cs n Rc) (hn : n = xs.length) (hR : ∀ i c, Rc i c → ∃ x, xs[i]? = some x ∧ c = cD K (.tuple [d1 x, d2 x]))
    (hv1 : cs[j1]? = some cNo) (hv2 : cs[j2]? = some cNo) (hz : xs.length ≤ 99999) (he : ∀ x ∈ xs, Ev te ((cs.set j1 (cD K (d1 x))).set j2 (cD K (d2 x))) (Is (cD K (f x)))) :
    Ev (tLc wi (gTup K 2 (gCons (gName j1) (gCons (gName j2) gNil))) tYes te [j1, j2]) cs (isO K (xs.map f)) := by
  have q := ev_lcF (js := [j1, j2]) (vs := [j1, j2]) (tq := tYes) (K := K) (te := te) xs (fun x => .tuple [d1 x, d2 x]) (fun _ => true) f hi hn (fun i c _ h => hR i c h) (fun k hk => by
    rcases List.mem_cons.mp hk with e | e
    · rw [e]; exact hv1
    · rw [mem1 e]; exact hv2) (fun j hj => hj) hz (fun x => (cs.set j1 (cD K (d1 x))).set j2 (cD K (d2 x))) (fun x _ => tg_pair) (fun x _ => by rw [List.length_set, List.length_set]) (fun x _ k hk => by
      rw [List.getElem?_set_ne fun e => hk (by simp [e]), List.getElem?_set_ne fun e => hk (by simp [e])]) (fun x _ => et_yes) fun x hx _ => he x hx
  rw [List.filter_eq_self.mpr fun _ _ => rfl] at q
  exact q
/-- .. of two and a filter -/
theorem ev_lc2 {α : Type} {wi : TI} {tq : TT} {n j1 j2 : Nat} {Rc : Nat → Cell → Prop} (xs : List α) (d1 d2 : α → PyData) (p : α → Bool) (f : α → PyData) (hi : EvI wi cs n Rc) (hn : n = xs.length) (hR : ∀ i c, Rc i c → ∃ x, xs[i]? = some x ∧ c = cD K (.tuple [d1 x, d2 x]))
    (hv1 : cs[j1]? = some cNo) (hv2 : cs[j2]? = some cNo) (hz : xs.length ≤ 99999) (ht : ∀ x ∈ xs, EvT tq ((cs.set j1 (cD K (d1 x))).set j2 (cD K (d2 x))) (fun b => b = p x)) (he : ∀ x ∈ xs, p x = true → Ev te ((cs.set j1 (cD K (d1 x))).set j2 (cD K (d2 x))) (Is (cD K (f x)))) :
    Ev (tLc wi (gTup K 2 (gCons (gName j1) (gCons (gName j2) gNil))) tq te [j1, j2]) cs (isO K ((xs.filter p).map f)) :=
  ev_lcF (js := [j1, j2]) (vs := [j1, j2]) xs (fun x => .tuple [d1 x, d2 x]) p f hi hn (fun i c _ h => hR i c h) (fun k hk => by
    rcases List.mem_cons.mp hk with e | e
    · rw [e]; exact hv1
    · rw [mem1 e]; exact hv2) (fun j hj => hj) hz (fun x => (cs.set j1 (cD K (d1 x))).set j2 (cD K (d2 x))) (fun x _ => tg_pair) (fun x _ => by rw [List.length_set, List.length_set]) (fun x _ k hk => by
      rw [List.getElem?_set_ne fun e => hk (by simp [e]), List.getElem?_set_ne fun e => hk (by simp [e])]) ht he
theorem zip_item {xs ys : List PyData} {i : Nat} {c : Cell} (h : ∃ d e, xs[i]? = some d ∧ ys[i]? = some e ∧ c = cD K (.tuple [d, e])) : ∃ x, (xs.zip ys)[i]? = some x ∧ c = cD K (.tuple [x.1, x.2]) := by
  obtain ⟨d, e, h1, h2, h3⟩ := h
  exact ⟨(d, e), List.getElem?_zip_eq_some.mpr ⟨h1, h2⟩, h3⟩
theorem zip_ints {xs ys : List Int} {i : Nat} {c : Cell} (h : ∃ d e, (xs.map PyData.int)[i]? = some d ∧ (ys.map PyData.int)[i]? = some e ∧ c = cD K (.tuple [d, e])) : ∃ x, (xs.zip ys)[i]? = some x ∧ c = cD K (.tuple [.int x.1, .int x.2]) := by
  obtain ⟨d, e, h1, h2, h3⟩ := h
  obtain ⟨x, q1, q2⟩ := item_ints (K := K) (ns := xs) ⟨d, h1, rfl⟩
  obtain ⟨y, q3, q4⟩ := item_ints (K := K) (ns := ys) ⟨e, h2, rfl⟩
  rw [List.getElem?_map, q1] at h1
  rw [List.getElem?_map, q3] at h2
  cases h1
  cases h2
  exact ⟨(x, y), List.getElem?_zip_eq_some.mpr ⟨q1, q3⟩, h3⟩
/-- the body's end without a return -/
theorem go_end {Q : VK} (h : RtOk B0 F0 (cN K :: cs) Q) : Go B0 F0 cs (fun _ H' => Q .non H') := fun σ H S => h σ H .non (S.pushD fun _ => .non)
theorem cutD_to {ds : List PyData} {e : Nat} (h : e ≤ ds.length) : cutD ds none (some (e : Int)) = ds.take e := by
  unfold cutD
  rw [sIx_nat, sIx_none, Nat.min_eq_left h, List.drop_zero, Nat.sub_zero]
theorem cutD_dropLast {ds : List PyData} : cutD ds none (some (-1)) = ds.dropLast := by
  unfold cutD
  rw [sIx_none, List.drop_zero, Nat.sub_zero]
  have e : sIx ds.length ds.length (some (-1)) = (-1 + (ds.length : Int)).toNat := by
    show (if (-1 : Int) < 0 then (-1 + (ds.length : Int)).toNat else min (-1 : Int).toNat ds.length) = _
    rw [if_pos (by decide)]
  rw [e, List.dropLast_eq_take]
  congr 1
  omega
theorem cutD_from {ds : List PyData} {e : Nat} (h : e ≤ ds.length) : cutD ds (some (e : Int)) none = ds.drop e := by
  unfold cutD
  rw [sIx_nat, sIx_none, Nat.min_eq_left h]
  exact List.take_of_length_le (by rw [List.length_drop]; exact Nat.le_refl _)
theorem atI_nat {α : Type} {ds : List α} {i : Nat} {x : α} (h : ds[i]? = some x) : atI ds (i : Int) = some x := by
  have hi : i < ds.length := (List.getElem?_eq_some_iff.mp h).1
  unfold atI
  rw [ixN_nat hi]
  exact h
theorem atI_last {α : Type} {ds : List α} {x : α} (h : ds[ds.length - 1]? = some x) : atI ds (-1) = some x := by
  have hi : ds.length - 1 < ds.length := (List.getElem?_eq_some_iff.mp h).1
  unfold atI ixN
  rw [if_neg (by decide), if_pos (by omega)]
  show ds[(-1 + (ds.length : Int)).toNat]? = some x
  rw [← h]
  congr 1
  omega
/-- the cell is a list of one's own, new; as data -/
theorem Ev.own {ds es : List PyData} (h : Ev te cs (isO K ds)) (e : ds = es) : Ev te cs (isO K es) := e ▸ h
theorem Ev.il {n m : Int} (h : Ev te cs (Is (cI K n))) (e : n = m) : Ev te cs (Is (cI K m)) := e ▸ h
theorem Ev.bo {n m : Bool} (h : Ev te cs (Is (cB K n))) (e : n = m) : Ev te cs (Is (cB K m)) := e ▸ h
theorem ev_eqI {n m : Int} (ha : Ev ta cs (Is (cI K n))) (hb : Ev tb cs (Is (cI K m))) : Ev (tOp (rEqD K) ta tb) cs (Is (cB K (decide (n = m)))) := (ev_eq ha.rd hb.rd rfl rfl).bo (by
  show (n == m) = decide (n = m)
  rfl)
theorem ev_neI {n m : Int} (ha : Ev ta cs (Is (cI K n))) (hb : Ev tb cs (Is (cI K m))) : Ev (tOp (rNeD K) ta tb) cs (Is (cB K (!decide (n = m)))) := (ev_ne ha.rd hb.rd rfl rfl).bo (by
  show (!(n == m)) = !decide (n = m)
  rfl)
theorem eqv_nil {xs : List PyData} : PyData.eqv (.tuple xs) (.tuple []) = decide (xs = []) := by
  cases xs <;> rfl
theorem eqv_nilL {xs : List PyData} : PyData.eqv (.list xs) (.list []) = decide (xs = []) := by
  cases xs <;> rfl
theorem atI_int {ns : List Int} {i : Nat} {x : Int} (h : ns[i]? = some x) : atI (ns.map PyData.int) (i : Int) = some (.int x) := atI_nat (by rw [List.getElem?_map, h]; rfl)
end
end Z
namespace Z
open PySem L2 StX HT
section
variable {K : PySem.W.Frag} {B0 F0 H : Hp} {cs ts : List Cell} {us σ : List (Option V)} {c : Cell} {te ta tb : TE} {D : Ends} {d : PyData}
def isNon : PyData → Bool
  | .none => true
  | _ => false
def isBool (b : Bool) : PyData → Bool
  | .bool c => c == b
  | _ => false
theorem dp_isNon {H : Hp} {v : V} (h : Dp K H v d) : decide (v = .non) = isNon d := by cases h <;> rfl
theorem dp_isBool {H : Hp} {v : V} {b : Bool} (h : Dp K H v d) : decide (v = .bl b) = isBool b d := by
  cases h with
  | bl c =>
    cases b <;> cases c <;> rfl
  | non => rfl
  | int i => rfl
  | str x => rfl
  | lst s a => rfl
  | tup s a => rfl
theorem ev_isN (ha : Ev ta cs (Rdb K cs d)) : Ev (tOp (fun x y H Q => y = .non ∧ Q (.bl (decide (x = .non))) H) ta (tC .non)) cs (Is (cB K (isNon d))) :=
  ev_op2 ha (ev_v (x := .non)) fun c1 c2 r1 r2 B0 F0 ts us σ H x y hl S Q q => by
    subst r2
    have ey := S.pin (i := 0) cV_pin rfl
    cases (Option.some.inj (Option.some.inj ey))
    have hd := S.pop.rd hl r1
    refine ⟨rfl, ?_⟩
    rw [dp_isNon hd]
    exact q _ _ _ rfl (S.pop.pop.pushD fun _ => .bl _)
theorem ev_notN (ha : Ev ta cs (Rdb K cs d)) : Ev (tOp (fun x y H Q => y = .non ∧ Q (.bl (!decide (x = .non))) H) ta (tC .non)) cs (Is (cB K (!isNon d))) :=
  ev_op2 ha (ev_v (x := .non)) fun c1 c2 r1 r2 B0 F0 ts us σ H x y hl S Q q => by
    subst r2
    have ey := S.pin (i := 0) cV_pin rfl
    cases (Option.some.inj (Option.some.inj ey))
    have hd := S.pop.rd hl r1
    refine ⟨rfl, ?_⟩
    rw [dp_isNon hd]
    exact q _ _ _ rfl (S.pop.pop.pushD fun _ => .bl _)
theorem ev_isB {b : Bool} (ha : Ev ta cs (Rdb K cs d)) : Ev (tOp rIsA ta (tC (.bl b))) cs (Is (cB K (isBool b d))) :=
  ev_op2 ha (ev_v (x := .bl b)) fun c1 c2 r1 r2 B0 F0 ts us σ H x y hl S Q q => by
    subst r2
    have ey := S.pin (i := 0) cV_pin rfl
    cases (Option.some.inj (Option.some.inj ey))
    have hd := S.pop.rd hl r1
    refine ⟨b, rfl, ?_⟩
    rw [dp_isBool hd]
    exact q _ _ _ rfl (S.pop.pop.pushD fun _ => .bl _)
theorem ev_notB {b : Bool} (ha : Ev ta cs (Rdb K cs d)) : Ev (tOp rNotA ta (tC (.bl b))) cs (Is (cB K (!isBool b d))) :=
  ev_op2 ha (ev_v (x := .bl b)) fun c1 c2 r1 r2 B0 F0 ts us σ H x y hl S Q q => by
    subst r2
    have ey := S.pin (i := 0) cV_pin rfl
    cases (Option.some.inj (Option.some.inj ey))
    have hd := S.pop.rd hl r1
    refine ⟨b, rfl, ?_⟩
    rw [dp_isBool hd]
    exact q _ _ _ rfl (S.pop.pop.pushD fun _ => .bl _)
theorem eqv_nilT {l : List Int} : PyData.eqv (tI l) (.tuple []) = decide (l = []) := by
  cases l <;> rfl
theorem eqv_nilI {l : List Int} : PyData.eqv (lI l) (.list []) = decide (l = []) := by
  cases l <;> rfl
/-- a row is () -/
theorem ev_eqNil {l : List Int} {t0 : TE} (ha : Ev ta cs (Rdb K cs (tI l))) (h0 : Ev t0 cs (Is (cD K (.tuple [])))) : Ev (tOp (rEqD K) ta t0) cs (Is (cB K (decide (l = [])))) := (ev_eq ha h0.rd (sh_intsT l) rfl).bo eqv_nilT
theorem ev_neNil {l : List Int} {t0 : TE} (ha : Ev ta cs (Rdb K cs (tI l))) (h0 : Ev t0 cs (Is (cD K (.tuple [])))) : Ev (tOp (rNeD K) ta t0) cs (Is (cB K (!decide (l = [])))) := (ev_ne ha h0.rd (sh_intsT l) rfl).bo (congrArg _ eqv_nilT)
theorem ev_neNilL {l : List Int} {t0 : TE} (ha : Ev ta cs (Rdb K cs (lI l))) (h0 : Ev t0 cs (isO K [])) : Ev (tOp (rNeD K) ta t0) cs (Is (cB K (!decide (l = [])))) := (ev_ne ha h0.freeze.rd (sh_ints l) rfl).bo (congrArg _ eqv_nilI)
theorem et_t {b : Bool} {t : TE} (h : Ev t cs (Is (cB K b))) : EvT (tTest t) cs (fun x => x = b) := et_test h
end
theorem nox_ex {X : Cx} {body : List Stmt} {R : TS → Prop} (h : ∃ t, PSs X.nox body t ∧ R t) : ∃ t, PSs X body t ∧ R t := by
  obtain ⟨t, h1, h2⟩ := h
  exact ⟨t, h1.nox, h2⟩
/-- of data on a condition -/
abbrev spP {I : Type} (K : PySem.W.Frag) (P : I → Prop) (A : I → List PyData) (f : I → PyData) : Sp := spD K (I := {x : I // P x}) (fun i => A i.1) (fun i => f i.1)
theorem ev_callP {K : PySem.W.Frag} {cs : List Cell} {I : Type} {P : I → Prop} {A : I → List PyData} {f : I → PyData} {E : XK} {ta : TA} (i : I) (p : P i) (h : EvA ta cs (fun as => as = (A i).map (cD K))) : Ev (tCall (spP K P A f) [] E ta) cs (Is (cD K (f i))) := ev_call (⟨i, p⟩ : {x : I // P x}) h
end Z
namespace Z
open PySem L2 StX HT
section
variable {K : PySem.W.Frag} {B0 B1 F0 : Hp} {cs : List Cell} {te ta tb tc tv : TE} {R Ra Rb : Cell → Prop} {d e : PyData} {tt : TT} {P P' : Bool → Prop} {D : Ends} {M : List Cell → Prop} {a b : Addr} {ns : List Int} {z : Int} {c : Cell}
theorem gs_set {u : TS} {i : Nat} {c : Cell} (h : Ev te cs (Is c)) (k : Go B0 F0 (cs.set i c) (u D)) : Go B0 F0 cs (tSeq (tAsg te (gName i)) u D) := go_seq (go_set h k)
theorem gs_setO {u : TS} {i : Nat} {ds : List PyData} (h : Ev te cs (isO K ds)) (k : ∀ l, Go B0 F0 (cs.set i (cOwn K l ds)) (u D)) : Go B0 F0 cs (tSeq (tAsg te (gName i)) u D) := go_seq (go_setO h k)
theorem gs_asg {u : TS} {i : Nat} (h : Ev te cs R) (k : ∀ c, R c → Go B0 F0 (cs.set i c) (u D)) : Go B0 F0 cs (tSeq (tAsg te (gName i)) u D) := go_seq (go_asg h k)
theorem gs_asgX {u : TS} {i : Nat} {Rx : Cell → List Cell → Prop} (h : EvX te cs Rx) (k : ∀ c cs', Rx c cs' → Go B0 F0 (cs'.set i c) (u D)) : Go B0 F0 cs (tSeq (tAsg te (gName i)) u D) := go_seq (go_asgX h k)
theorem gs_drop {u : TS} (h : Ev te cs R) (k : Go B0 F0 cs (u D)) : Go B0 F0 cs (tSeq (tDrop te) u D) := go_seq (go_drop h k)
theorem gs_dropX {u : TS} {Rx : Cell → List Cell → Prop} (h : EvX te cs Rx) (k : ∀ c cs', Rx c cs' → Go B0 F0 cs' (u D)) : Go B0 F0 cs (tSeq (tDrop te) u D) := go_seq (go_dropX h k)
theorem gs_par {u : TS} {i j : Nat} {c1 c2 : Cell} {ta : TA} (h : EvA ta cs (fun as => as = [c1, c2])) (k : Go B0 F0 ((cs.set i c1).set j c2) (u D)) : Go B0 F0 cs (tSeq (tPar i j ta) u D) := go_seq (go_par h k)
theorem gs_aug {u : TS} {i : Nat} {f : Int → Int → Int} {a b : Int} (hx : cs[i]? = some (cI K a)) (h : Ev te cs (Is (cI K b))) (k : Go B0 F0 (cs.set i (cI K (f a b))) (u D)) : Go B0 F0 cs (tSeq (tAug i te (ipI f)) u D) := go_seq (go_aug hx h k)
theorem gs_append {u : TS} {i : Nat} {l : Addr} {ds : List PyData} (hi : cs[i]? = some (cOwn K l ds)) (h : Ev te cs (Is (cD K d))) (hz : ds.length < 100000) (k : Go B0 F0 (cs.set i (cOwn K l (ds ++ [d]))) (u D)) : Go B0 F0 cs (tSeq (tDrop (tBM K "list" rAppend (tVar i) (tCons te tNil))) u D) := go_seq (go_append hi h hz k)
theorem gs_appendN {u : TS} {i : Nat} {l : Addr} {ds : List PyData} {Q : PyData → Prop} (hi : cs[i]? = some (cOwn K l ds)) (h : Ev te cs (isD K Q)) (hz : ds.length < 100000) (k : ∀ d, Q d → Go B0 F0 (cs.set i (cOwn K l (ds ++ [d]))) (u D)) : Go B0 F0 cs (tSeq (tDrop (tBM K "list" rAppend (tVar i) (tCons te tNil))) u D) := go_seq (go_appendN hi h hz k)
theorem gs_store {u : TS} {i j : Nat} {l : Addr} {ds : List PyData} (hi : cs[i]? = some (cOwn K l ds)) (h : Ev te cs (Is (cD K d))) (hj : Ev tb cs (Is (cI K j))) (hlt : j < ds.length) (k : Go B0 F0 (cs.set i (cOwn K l (ds.set j d))) (u D)) : Go B0 F0 cs (tSeq (tAsg te (gSub (tVar i) tb rSetL)) u D) := go_seq (go_store hi h hj hlt k)
theorem gs_storeAdd {u : TS} {i j : Nat} {l : Addr} {ds : List PyData} {f : Int → Int → Int} {a b : Int} (hi : cs[i]? = some (cOwn K l ds)) (hj : Ev tb cs (Is (cI K j))) (hlt : j < 100000) (ha : ds[j]? = some (.int a)) (h : Ev te cs (Is (cI K b)))
    (k : Go B0 F0 (cs.set i (cOwn K l (ds.set j (.int (f a b))))) (u D)) : Go B0 F0 cs (tSeq (tAugS (tVar i) tb te (rGetL K) (ipI f) rSetL) u D) := go_seq (go_storeAdd hi hj hlt ha h k)
theorem gs_fld {u : TS} {C p : Addr} {ns : List Str} {fs : List Cell} {f : Str} {k i : Nat} (hv : Ev tv cs R) (he : Ev ta cs (Is (cV (.ref p)))) (hk : cs[k]? = some (cIns C p ns fs)) (hi : ixF f ns = i) (hin : i < ns.length) (hil : i < fs.length) (hn : ns.length < 1000) (cl : Cls K C) (na : NoAttr K C f)
    (kk : ∀ c, R c → Go B0 F0 (cs.set k (cIns C p ns (fs.set i c))) (u D)) : Go B0 F0 cs (tSeq (sFld K ta tv f) u D) := go_seq (go_fld hv he hk hi hin hil hn cl na kk)
theorem gs_fldNew {u : TS} {C p : Addr} {ns : List Str} {fs : List Cell} {f : Str} {k : Nat} (hv : Ev tv cs R) (he : Ev ta cs (Is (cV (.ref p)))) (hk : cs[k]? = some (cIns C p ns fs)) (hi : f ∉ ns) (hln : ixF f (ns ++ [f]) = ns.length) (hl : fs.length = ns.length) (hn : ns.length < 1000) (cl : Cls K C) (na : NoAttr K C f)
    (kk : ∀ c, R c → Go B0 F0 (cs.set k (cIns C p (ns ++ [f]) (fs ++ [c]))) (u D)) : Go B0 F0 cs (tSeq (sFld K ta tv f) u D) := go_seq (go_fldNew hv he hk hi hln hl hn cl na kk)
theorem gs_fldAppend {u : TS} {C p l : Addr} {ns : List Str} {fs : List Cell} {ds : List PyData} {f : Str} {k i : Nat} (he : Ev ta cs (Is (cV (.ref p)))) (hk : cs[k]? = some (cIns C p ns fs)) (hi : ixF f ns = i) (hc : fs[i]? = some (cOwn K l ds)) (cl : Cls K C) (na : NoAttr K C f)
    (h : Ev te cs (Is (cD K d))) (hz : ds.length < 100000) (kk : Go B0 F0 (cs.set k (cIns C p ns (fs.set i (cOwn K l (ds ++ [d]))))) (u D)) : Go B0 F0 cs (tSeq (tDrop (tBM K "list" rAppend (tFld K ta f) (tCons te tNil))) u D) := go_seq (go_fldAppend he hk hi hc cl na h hz kk)
theorem gs_dealApp {u : TS} {k : Nat} {n : Int} (hk : cs[k]? = some (cDeal a b ns z)) (ha : Ev ta cs (Is (cV (.ref b)))) (h : Ev te cs (Is (cI K n))) (hz : ns.length < 100000) (kk : Go B0 F0 (cs.set k (cDeal a b (ns ++ [n]) z)) (u D)) : Go B0 F0 cs (tSeq (tDrop (tBM K "list" rAppend ta (tCons te tNil))) u D) := go_seq (go_dealApp hk ha h hz kk)
theorem gs_dealSet {u : TS} {k : Nat} {n : Int} (hk : cs[k]? = some (cDeal a b ns z)) (h : Ev te cs (Is (cI K n))) (hb : Ev tb cs (Is (cI K 1))) (kk : Go B0 F0 (cs.set k (cDeal a b ns n)) (u D)) : Go B0 F0 cs (tSeq (tAsg te (gSub (tVar k) tb rSetL)) u D) := go_seq (go_dealSet hk h hb kk)
theorem gs_asgG {u : TS} {g : TG} {js : List Nat} {c : Cell} {cs2 : List Cell} (h : Ev te cs (Is c)) (hg : TgOk g js c cs cs2) (k : Go B0 F0 cs2 (u D)) : Go B0 F0 cs (tSeq (tAsg te g) u D) := go_seq (go_asgG h hg k)
theorem gs_skip {t u : TS} (h : EvT tt cs (fun x => x = false)) (k : Go B0 F0 cs (u D)) : Go B0 F0 cs (tSeq (tIfS tt t tNext) u D) := go_seq (go_ifF h (go_nx k))
theorem gs_if {b : Bool} {t t2 u : TS} (h : EvT tt cs (fun x => x = b)) (h1 : b = true → Go B0 F0 cs (t { D with nx := u D })) (h2 : b = false → Go B0 F0 cs (t2 { D with nx := u D })) : Go B0 F0 cs (tSeq (tIfS tt t t2) u D) := go_seq (go_if h h1 h2)
/-- if ..: return -/
theorem gs_ifE {b : Bool} {t u : TS} (h : EvT tt cs (fun x => x = b)) (h1 : b = true → Go B0 F0 cs (t { D with nx := u D })) (k : b = false → Go B0 F0 cs (u D)) : Go B0 F0 cs (tSeq (tIfS tt t tNext) u D) := go_seq (go_if h h1 fun z => go_nx (k z))
theorem gs_for {u : TS} {wi : TI} {g : TG} {tb : TS} {n : Nat} {Rc : Nat → Cell → Prop} {js : List Nat} (hi : EvI wi cs n Rc) (Pv : Nat → List Cell → Prop) (h0 : Pv 0 cs)
    (hs : ∀ B1, Same B0 B1 → ∀ i c cs', i < n → Rc i c → Pv i cs' → ∃ cs2, TgOk g js c cs' cs2 ∧ Go B1 F0 cs2 (tb { D with nx := Mid B1 F0 (Pv (i + 1)), ct := Mid B1 F0 (Pv (i + 1)), bk := u D }))
    (hd : ∀ cs', Pv n cs' → Go B0 F0 cs' (u D)) : Go B0 F0 cs (tSeq (tFor wi g tb) u D) := go_seq (go_for hi Pv h0 hs hd)
theorem gs_while {u : TS} {tb : TS} (W : Nat → List Cell → Prop) (m0 : Nat) (h0 : W m0 cs)
    (hs : ∀ m cs', W m cs' → ∃ b, EvT tt cs' (fun x => x = b) ∧ (b = true → Go B0 F0 cs' (tb { D with nx := Mid B0 F0 (fun c => ∃ m', m' < m ∧ W m' c), ct := Mid B0 F0 (fun c => ∃ m', m' < m ∧ W m' c), bk := u D })) ∧ (b = false → Go B0 F0 cs' (u D))) :
    Go B0 F0 cs (tSeq (tWhile tt tb) u D) := go_seq (go_while W m0 h0 hs)
end
end Z
namespace Z
open PySem L2 StX HT
section
variable {K : PySem.W.Frag} {B0 F0 : Hp} {cs : List Cell} {te ta tb : TE} {D : Ends} {d : PyData} {u : TS}
theorem go_parG {i j : Nat} {P : Cell → Cell → Prop} {ta : TA} (h : EvA ta cs (fun as => ∃ c1 c2, as = [c1, c2] ∧ P c1 c2)) (k : ∀ c1 c2, P c1 c2 → Go B0 F0 ((cs.set i c1).set j c2) D.nx) : Go B0 F0 cs (tPar i j ta D) := fun σ H S =>
  h B0 F0 [] [] σ H rfl S _ fun as vs H' ⟨c1, c2, r, p⟩ hv S' => by
    subst r
    match vs, hv with
    | [v, w], _ =>
      have S2 : Sim B0 F0 (c1 :: c2 :: cs) (some v :: some w :: σ) H' := S'
      exact ⟨v, w, rfl, k c1 c2 p _ _ ((S2.set (i + 1)).set j)⟩
theorem gs_parG {i j : Nat} {P : Cell → Cell → Prop} {ta : TA} (h : EvA ta cs (fun as => ∃ c1 c2, as = [c1, c2] ∧ P c1 c2)) (k : ∀ c1 c2, P c1 c2 → Go B0 F0 ((cs.set i c1).set j c2) (u D)) : Go B0 F0 cs (tSeq (tPar i j ta) u D) := go_seq (go_parG h k)
theorem ea2 {R1 R2 : Cell → Prop} (h1 : Ev ta cs R1) (h2 : Ev tb cs R2) : EvA (tCons ta (tCons tb tNil)) cs (fun as => ∃ c1 c2, as = [c1, c2] ∧ (R1 c1 ∧ R2 c2)) := (ea_consN h1 (ea_consN h2 ea_nil)).imp fun as ⟨c1, r, e, r1, c2, r', e', r2, e3⟩ => ⟨c1, c2, by rw [e, e', e3], r1, r2⟩
/-- xs.append(e), e changes other slots -/
theorem go_appendX {i : Nat} {l : Addr} {ds : List PyData} {cs' : List Cell} (hi : cs[i]? = some (cOwn K l ds)) (h : EvX te cs (fun c c' => c = cD K d ∧ c' = cs')) (hi' : cs'[i]? = some (cOwn K l ds)) (hz : ds.length < 100000) (k : Go B0 F0 (cs'.set i (cOwn K l (ds ++ [d]))) D.nx) :
    Go B0 F0 cs (tDrop (tBM K "list" rAppend (tVar i) (tCons te tNil)) D) := fun σ H S => by
    unfold tDrop tBM
    refine ev_varO hi B0 F0 [] [] σ H rfl S _ fun c x H1 r S1 => ?_
    subst r
    have ex := S1.pin (i := 0) cV_pin rfl
    cases (Option.some.inj (Option.some.inj ex))
    obtain ⟨_, vs, q1, q2⟩ := S1.pop.ownAt hi
    refine ⟨.inl ⟨rfl, _, SqL.of q1⟩, h B0 F0 [cV (.ref l)] [some (.ref l)] σ H1 rfl S1 _ fun c2 v cs2 H2 ⟨r2, r3⟩ S2 => ?_⟩
    subst r2 r3
    have S3 : Sim B0 F0 (cD K d :: cs2) (some v :: σ) H2 := S2.swap.pop
    obtain ⟨_, ws, q3, q4⟩ := S3.pop.ownAt hi'
    refine ⟨l, ws, v, rfl, rfl, q3, by rw [dpAll_len q4]; exact sz_lt hz, k _ _ ?_⟩
    refine Sim.mutate (ts := [cD K d]) (us := [some v]) S3 rfl hi' fun B F f1 xs h7 h8 h9 => ?_
    rw [q3] at h9
    cases h9
    obtain ⟨g1, g2, _, ⟨_, z, ez, rz⟩, _⟩ := h7
    cases ez
    exact dpAll_app h8 rz
theorem gs_appendX {i : Nat} {l : Addr} {ds : List PyData} {cs' : List Cell} (hi : cs[i]? = some (cOwn K l ds)) (h : EvX te cs (fun c c' => c = cD K d ∧ c' = cs')) (hi' : cs'[i]? = some (cOwn K l ds)) (hz : ds.length < 100000) (k : Go B0 F0 (cs'.set i (cOwn K l (ds ++ [d]))) (u D)) :
    Go B0 F0 cs (tSeq (tDrop (tBM K "list" rAppend (tVar i) (tCons te tNil))) u D) := go_seq (go_appendX hi h hi' hz k)
end
end Z
namespace Z
open PySem L2 StX HT
section
variable {K : PySem.W.Frag} {B0 F0 : Hp} {cs : List Cell} {te ta tb : TE} {D : Ends} {d : PyData} {u : TS} {R : Cell → Prop}
theorem set_same {α : Type} {cs : List α} {k : Nat} {c : α} (h : cs[k]? = some c) : cs.set k c = cs := by
  have hk := (List.getElem?_eq_some_iff.mp h).1
  have e : cs[k] = c := by
    rw [List.getElem?_eq_getElem hk] at h
    exact Option.some.inj h
  rw [← e, List.set_getElem_self]
theorem Ev.ofX {Rx : Cell → List Cell → Prop} (h : EvX te cs Rx) (k : ∀ c cs', Rx c cs' → R c ∧ cs' = cs) : Ev te cs R := fun B0 F0 ts us σ H hl S Q q => h B0 F0 ts us σ H hl S Q fun c v cs' H' r S' => by
  obtain ⟨r1, r2⟩ := k c cs' r
  subst r2
  exact q c v H' r1 S'
section
variable {I : Type} {A : I → List Cell} {Po : I → List Cell → Cell → Prop} {E : XK} {t : TA} {C p : Addr} {ns : List Str} {fs : List Cell} {m : Str} {Rx : Cell → List Cell → Prop}
/-- o.m(..), the promise's index told -/
theorem ev_meth1 (i : I) {as : List Cell} (k : Nat) (hk : cs[k]? = some (cIns C p ns fs)) (hm : m ∉ ns) (hA : A i = cIns C p ns fs :: as) (he : Ev ta cs (Is (cV (.ref p)))) (h : EvA t cs (fun x => x = as))
    (hr : ∀ cs' c', Po i cs' c' → ∃ c2, c2.Pin (.ref p) ∧ cs' = c2 :: as.map (fun _ => cNo) ∧ Rx c' (cs.set k c2)) : EvX (tMeth C m (spR A Po) [] E ta t) cs Rx :=
  ev_methN k hk hm (fun j x => j = i ∧ x = as) (fun j x ⟨e1, e2⟩ => by rw [e1, e2]; exact hA) he (h.imp fun x e => ⟨i, rfl, e⟩) fun j x cs' c' ⟨e1, e2⟩ po => by
    subst e1 e2
    exact hr cs' c' po
/-- .. that leaves o as it is -/
theorem ev_methK (i : I) {as : List Cell} (k : Nat) (hk : cs[k]? = some (cIns C p ns fs)) (hm : m ∉ ns) (hA : A i = cIns C p ns fs :: as) (he : Ev ta cs (Is (cV (.ref p)))) (h : EvA t cs (fun x => x = as))
    (hr : ∀ cs' c', Po i cs' c' → cs' = cIns C p ns fs :: as.map (fun _ => cNo) ∧ R c') : Ev (tMeth C m (spR A Po) [] E ta t) cs R :=
  Ev.ofX (Rx := fun c cs' => R c ∧ cs' = cs) (ev_meth1 i k hk hm hA he h fun cs' c' po => by
    obtain ⟨e, r⟩ := hr cs' c' po
    exact ⟨_, cIns_pin, e, r, set_same hk⟩) fun _ _ h => h
/-- f(o, ..) that leaves o as it is, told by a property -/
theorem ev_callK {c : Cell} {x : V} {R : Cell → Prop} (k : Nat) (hk : cs[k]? = some c) (hp : c.Pin x) (P : I → List Cell → Prop) (hA : ∀ i as, P i as → A i = c :: as) (h : EvA t cs (fun as => ∃ i ds, as = cV x :: ds ∧ P i ds))
    (hr : ∀ i as cs' c', P i as → Po i cs' c' → cs' = c :: as.map (fun _ => cNo) ∧ R c') : Ev (tCall (spR A Po) [] E t) cs R :=
  Ev.ofX (Rx := fun c cs' => R c ∧ cs' = cs) (ev_callRN k hk hp P hA h fun i as cs' c' p po => by
    obtain ⟨e, r⟩ := hr i as cs' c' p po
    exact ⟨c, hp, e, r, set_same hk⟩) fun _ _ h => h
/-- .. of which the index is told -/
theorem ev_callK1 {c : Cell} {x : V} {R : Cell → Prop} (i : I) {as : List Cell} (k : Nat) (hk : cs[k]? = some c) (hp : c.Pin x) (hA : A i = c :: as) (h : EvA t cs (fun z => z = cV x :: as))
    (hr : ∀ cs' c', Po i cs' c' → cs' = c :: as.map (fun _ => cNo) ∧ R c') : Ev (tCall (spR A Po) [] E t) cs R :=
  ev_callK k hk hp (fun j z => j = i ∧ z = as) (fun j z ⟨e1, e2⟩ => by rw [e1, e2]; exact hA) (h.imp fun z e => ⟨i, as, e, rfl, rfl⟩) fun j z cs' c' ⟨e1, e2⟩ po => by
    subst e1 e2
    exact hr cs' c' po
end
end
end Z
namespace Z
open PySem L2 StX HT
section
variable {K : PySem.W.Frag} {B0 B1 F0 : Hp} {cs : List Cell} {te ta tb t1 t2 : TE} {D : Ends} {d : PyData} {u : TS} {R Ra Rb : Cell → Prop}
theorem Ev.toI {P : Int → Prop} {Q : PyData → Prop} (h : Ev te cs (isD K Q)) (k : ∀ d, Q d → ∃ n, d = .int n ∧ P n) : Ev te cs (isI K P) := h.imp fun c ⟨d, e, q⟩ => by
  obtain ⟨n, rfl, p⟩ := k d q
  exact ⟨n, e, p⟩
theorem Ev.wI {P P' : Int → Prop} (h : Ev te cs (isI K P)) (k : ∀ n, P n → P' n) : Ev te cs (isI K P') := h.imp fun c ⟨n, e, p⟩ => ⟨n, e, k n p⟩
theorem Ev.wD {P P' : PyData → Prop} (h : Ev te cs (isD K P)) (k : ∀ n, P n → P' n) : Ev te cs (isD K P') := h.imp fun c ⟨n, e, p⟩ => ⟨n, e, k n p⟩
/-- a new list, told by a property, as data -/
def isLs (K : PySem.W.Frag) (P : List PyData → Prop) : Cell → Prop := fun c => ∃ ds, c = cD K (.list ds) ∧ P ds
theorem Ev.freezeN {P : List PyData → Prop} (h : Ev te cs (fun c => ∃ ds, isO K ds c ∧ P ds)) : Ev te cs (isLs K P) := fun B0 F0 ts us σ H hl S Q q => h B0 F0 ts us σ H hl S Q fun c v H' r S' => by
  obtain ⟨ds, ⟨l, rfl⟩, p⟩ := r
  exact q _ v H' ⟨ds, rfl, p⟩ S'.freeze
theorem Ev.lsd {ds : List PyData} (h : Ev te cs (Is (cD K (.list ds)))) : Ev te cs (isLs K (fun x => x = ds)) := h.imp fun c r => ⟨ds, r, rfl⟩
/-- xs[i], i told by a property -/
theorem ev_ixLN {ds : List PyData} {P : Int → Prop} (ha : Ev ta cs (Rdb K cs (.list ds))) (hb : Ev tb cs (isI K P)) (hp : ∀ i, P i → 0 ≤ i ∧ i < ds.length) : Ev (tOp (rIxL K) ta tb) cs (isD K (fun d => d ∈ ds)) :=
  ev_op2 ha hb fun c1 c2 r1 ⟨i, r2, p⟩ B0 F0 ts us σ H x y hl S Q q => by
    subst r2
    have ey := dp_int S.dp
    obtain ⟨B, a, xs, rfl, hs, hd, O⟩ := S.pop.opnL hl r1
    obtain ⟨h0, h1⟩ := hp i p
    obtain ⟨n, rfl⟩ : ∃ n : Nat, i = n := ⟨i.toNat, by omega⟩
    have hn : n < ds.length := by omega
    obtain ⟨v, ev, rv⟩ := atI_dp hd (atI_nat (List.getElem?_eq_getElem hn))
    exact ⟨a, xs, n, v, rfl, ey, hs, ev, q _ v H ⟨_, rfl, List.getElem_mem hn⟩ (O.push v _ rv)⟩
theorem ev_varL {i : Nat} {xs : List V} (hi : cs[i]? = some (cL K xs)) : Ev (tVar i) cs (Is (cL K xs)) := fun B0 F0 ts us σ H hl S Q q => by
  have hi' : (ts ++ cs)[ts.length + i]? = some (cL K xs) := by rw [at_ts rfl]; exact hi
  obtain ⟨w, ew, S'⟩ := S.dup cL_pure hi'
  rw [at_ts hl.symm] at ew
  obtain ⟨B, F, fp, h1, h2, h3, ⟨f1, f2, ef, ⟨_, x, ex, r⟩, r2⟩, h5, h6⟩ := id S'
  subst ex
  exact ⟨.ref x, ew, q _ _ H rfl S'⟩
theorem Sim.lv {B0 F0 H : Hp} {σ : List (Option V)} {x : V} {xs : List V} (S : Sim B0 F0 (cL K xs :: cs) (some x :: σ) H) : ∃ a, x = .ref a ∧ SqL K H a xs := by
  obtain ⟨B, F, fp, h1, h2, h3, ⟨f1, f2, ef, ⟨_, a, ea, r⟩, r2⟩, h5, h6⟩ := S
  cases ea
  rw [h1]
  exact ⟨a, rfl, (pl_same h2).seq r⟩
theorem ev_lenV {xs : List V} (h : Ev te cs (Is (cL K xs))) : Ev (tCB (fun xs H Q => ∃ p ys, xs = [.ref p] ∧ (SqL K H p ys ∨ SqT K H p ys) ∧ Q (.int ys.length) H) (tCons te tNil)) cs (Is (cI K xs.length)) :=
  ev_cb1 h fun c r B0 F0 ts us σ H x hl S Q q => by
    subst r
    obtain ⟨a, rfl, hs⟩ := S.lv
    exact ⟨a, xs, rfl, .inl hs, q _ _ _ rfl (S.pop.pushD fun _ => .int _)⟩
theorem ev_ixV {xs : List V} {P : Int → Prop} (ha : Ev ta cs (Is (cL K xs))) (hb : Ev tb cs (isI K P)) (hp : ∀ i, P i → 0 ≤ i ∧ i < xs.length) : Ev (tOp (rIxL K) ta tb) cs (fun c => ∃ x, c = cV x ∧ x ∈ xs) :=
  ev_op2 ha hb fun c1 c2 r1 ⟨i, r2, p⟩ B0 F0 ts us σ H x y hl S Q q => by
    subst r1 r2
    have ey := dp_int S.dp
    obtain ⟨a, rfl, hs⟩ := S.pop.lv
    obtain ⟨h0, h1⟩ := hp i p
    obtain ⟨n, rfl⟩ : ∃ n : Nat, i = n := ⟨i.toNat, by omega⟩
    have hn : n < xs.length := by omega
    exact ⟨a, xs, n, xs[n], rfl, ey, hs, atI_nat (List.getElem?_eq_getElem hn), q _ _ H ⟨_, rfl, List.getElem_mem hn⟩ S.pop.pop.pushV⟩
/-- [x, y] of values -/
theorem ev_lstV2 {x y : V} (h1 : Ev t1 cs (Is (cV x))) (h2 : Ev t2 cs (Is (cV y))) : Ev (tLst (tCons t1 (tCons t2 tNil))) cs (Is (cL K [x, y])) := fun B0 F0 ts us σ H hl S Q q =>
  h1 B0 F0 ts us σ H hl S _ fun c1 v H1 r1 S1 => h2 B0 F0 (c1 :: ts) (some v :: us) σ H1 (congrArg (· + 1) hl) S1 _ fun c2 w H2 r2 S2 => by
    subst r1 r2
    have ew := Sim.pin (i := 0) cV_pin S2 rfl
    have ev := Sim.pin (i := 0) cV_pin (Sim.pop S2) rfl
    cases (Option.some.inj (Option.some.inj ew))
    cases (Option.some.inj (Option.some.inj ev))
    refine ⟨sz_of (by show 2 ≤ 100000; decide), fun p hp => q _ _ _ rfl ?_⟩
    obtain ⟨B, F, fp, g1, g2, g3, g4, g5, g6⟩ := (Sim.pop S2).pop
    subst g1
    obtain ⟨pF, pB⟩ := pl_none hp
    exact ⟨upd B p _, F, fp, pl_updB pF, dj_updB g2 pF, g3.trans (same_upd pB), ⟨[], fp, rfl, ⟨rfl, p, rfl, SqL.of upd_same⟩, g4.mono (same_upd pB)⟩, g5, g6⟩
theorem ev_catO {i : Nat} {l : Addr} {xs : List PyData} {P : List PyData → Prop} (hi : cs[i]? = some (cOwn K l xs)) (hb : Ev tb cs (fun c => ∃ ys, isO K ys c ∧ P ys)) (hz : ∀ ys, P ys → xs.length + ys.length ≤ 100000) : Ev (tOp rCat (tVar i) tb) cs (fun c => ∃ ds, isO K ds c ∧ ∃ ys, P ys ∧ ds = xs ++ ys) :=
  ev_op2 (ev_varO hi) hb fun c1 c2 r1 ⟨ys, ⟨m, r2⟩, p⟩ B0 F0 ts us σ H x y hl S Q q => by
    subst r1 r2
    obtain ⟨B, F, fp, h1, h2, h3, ⟨f1, _, ef, ⟨e1, ey, ws, q1, q2⟩, ⟨g1, g2, eg, ⟨e2, ex⟩, r⟩⟩, h5, h6⟩ := S
    cases ex
    cases ey
    subst h1
    subst eg
    subst ef
    have hi' : (ts ++ cs)[ts.length + i]? = some (cOwn K l xs) := by rw [at_ts rfl]; exact hi
    obtain ⟨w, pre, mid, post, e3, e4, ⟨_, ew, vs, q3, q4⟩, k⟩ := Holds.get r hi'
    have O : Opn K B B0 F0 (ts ++ cs) (us ++ σ) (pl B F) := .mk' h2 h3 r (List.nodup_append.mp (List.nodup_append.mp h5).2.1).2.1 fun a o e => ⟨(h6 a o e).1, fun m => (h6 a o e).2 (by simp [m])⟩
    exact ⟨l, m, vs, ws, rfl, rfl, pl_F q3, pl_F q1, by rw [dpAll_len q2, dpAll_len q4]; exact sz_of (hz ys p), fun p' hp => q _ _ _ ⟨_, ⟨p', rfl⟩, ys, p, rfl⟩ (O.own p' _ _ hp (dpAll_cat q4 q2))⟩
theorem ev_repN {xs : List PyData} {P : Int → Prop} (ha : Ev ta cs (isO K xs)) (hb : Ev tb cs (isI K P)) (h1 : ∀ n, P n → -1000000 ≤ n ∧ n ≤ 1000000 ∧ xs.length * n.toNat ≤ 100000) : Ev (tOp rRep ta tb) cs (fun c => ∃ ds, isO K ds c ∧ ∃ n, P n ∧ ds = (List.replicate n.toNat xs).flatten) :=
  ev_op2 ha hb fun c1 c2 ⟨l, r1⟩ ⟨n, r2, p⟩ B0 F0 ts us σ H x y hl S Q q => by
    subst r1 r2
    obtain ⟨z1, z2, z3⟩ := h1 n p
    have ey := dp_int S.dp
    obtain ⟨B, F, fp, h0, h2, h3, ⟨g1, g2, eg, ⟨e2, ex, ws, q3, q4⟩, r⟩, h5, h6⟩ := S.pop
    cases ex
    subst h0
    subst eg
    have O : Opn K B B0 F0 (ts ++ cs) (us ++ σ) (pl B F) := .mk' h2 h3 r (List.nodup_append.mp h5).2.1 fun a o e => ⟨(h6 a o e).1, fun m => (h6 a o e).2 (by simp [m])⟩
    exact ⟨l, n, ws, rfl, ey, pl_F q3, by omega, by omega, by rw [dpAll_len q4]; exact sz_of z3, fun p' hp => q _ _ _ ⟨_, ⟨p', rfl⟩, n, p, rfl⟩ (O.own p' _ _ hp (flat_dp q4 _))⟩
theorem ev_tupleN {P : List PyData → Prop} (h : Ev te cs (isLs K P)) : Ev (tCB (fun xs H Q => ∃ p ys, xs = [.ref p] ∧ ((SqL K H p ys ∧ ∀ l, H l = none → Q (.ref l) (upd H l (.tup ys))) ∨ (SqT K H p ys ∧ Q (.ref p) H))) (tCons te tNil)) cs (isD K (fun d => ∃ ds, d = .tuple ds ∧ P ds)) :=
  ev_cb1 h fun c r B0 F0 ts us σ H x hl S Q q => by
    obtain ⟨ds, rfl, p⟩ := r
    obtain ⟨B, a, xs, rfl, hs, hd, O⟩ := S.opnL (ts := ts) hl (Or.inl rfl)
    exact ⟨a, xs, rfl, .inl ⟨hs, fun p' hp => q _ _ _ ⟨_, rfl, ds, rfl, p⟩ (O.new p' _ _ hp fun hB => .tup (SqT.of upd_same) (dpAll_same (same_upd hB) hd))⟩⟩
theorem go_forR {tb : TS} {j : Nat} {P : Int → Prop} (h : Ev te cs (isI K P)) (hb : ∀ n, P n → -1000000 ≤ n ∧ n ≤ 1000000) (Pv : Nat → List Cell → Prop) (h0 : Pv 0 cs)
    (hs : ∀ B1, Same B0 B1 → ∀ N (i : Nat) cs', P N → (i : Int) < N → Pv i cs' → Go B1 F0 (cs'.set j (cI K i)) (tb { D with nx := Mid B1 F0 (Pv (i + 1)), ct := Mid B1 F0 (Pv (i + 1)), bk := D.nx }))
    (hd : ∀ N cs', P N → Pv N.toNat cs' → Go B0 F0 cs' D.nx) : Go B0 F0 cs (tFor (iRng1 (tCons te tNil)) (gName j) tb D) := fun σ H S =>
  h B0 F0 [] [] σ H rfl S _ fun c x H1 ⟨n, r, p⟩ S1 => by
    subst r
    have ex := dp_int S1.dp
    subst ex
    obtain ⟨b1, b2⟩ := hb n p
    have q := go_for (D := D) (tb := tb) (g := gName j) (js := [j]) (B0 := B0) (F0 := F0) (cs := cs) (ei_rng1 (K := K) (te := tC (.int n)) ev_int ⟨b1, b2⟩) Pv h0 (fun B1 sB i c cs' hi hc pv => ⟨_, tg_name, by
      subst hc
      exact hs B1 sB n i cs' p (by omega) pv⟩) (fun cs' pv => hd n cs' p pv) σ H1 S1.pop
    obtain ⟨n', e, b3, b4, w⟩ := q
    cases e
    exact ⟨n, rfl, b3, b4, w⟩
theorem gs_forR {tb : TS} {j : Nat} {P : Int → Prop} (h : Ev te cs (isI K P)) (hb : ∀ n, P n → -1000000 ≤ n ∧ n ≤ 1000000) (Pv : Nat → List Cell → Prop) (h0 : Pv 0 cs)
    (hs : ∀ B1, Same B0 B1 → ∀ N (i : Nat) cs', P N → (i : Int) < N → Pv i cs' → Go B1 F0 (cs'.set j (cI K i)) (tb { D with nx := Mid B1 F0 (Pv (i + 1)), ct := Mid B1 F0 (Pv (i + 1)), bk := u D }))
    (hd : ∀ N cs', P N → Pv N.toNat cs' → Go B0 F0 cs' (u D)) : Go B0 F0 cs (tSeq (tFor (iRng1 (tCons te tNil)) (gName j) tb) u D) := go_seq (go_forR h hb Pv h0 hs hd)
theorem evX_int1 {n : Int} {cs1 : List Cell} (h : EvX te cs (fun c cs' => c = cI K n ∧ cs' = cs1)) : EvX (tCB (fun xs H Q => (∃ i, xs = [.int i] ∧ Q (.int i) H) ∨ ∃ k, xs = [.bl k] ∧ Q (.int (if k then 1 else 0)) H) (tCons te tNil)) cs (fun c cs' => c = cI K n ∧ cs' = cs1) := fun B0 F0 ts us σ H hl S Q q =>
  h B0 F0 ts us σ H hl S _ fun c v cs' H' ⟨r1, r2⟩ S' => by
    subst r1 r2
    exact .inl ⟨n, congrArg (fun z => [z]) (dp_int S'.dp), q _ _ _ _ ⟨rfl, rfl⟩ (S'.pop.pushD fun _ => .int n)⟩
theorem ev_mkDeal {ns : List Int} {z : Int} (h1 : Ev t1 cs (isO K (ns.map .int))) (h2 : Ev t2 cs (Is (cI K z))) : Ev (tLst (tCons t1 (tCons t2 tNil))) cs (fun c => ∃ a b, c = cDeal a b ns z) := fun B0 F0 ts us σ H hl S Q q =>
  h1 B0 F0 ts us σ H hl S _ fun c1 v H1 ⟨b, r1⟩ S1 => h2 B0 F0 (c1 :: ts) (some v :: us) σ H1 (congrArg (· + 1) hl) S1 _ fun c2 w H2 r2 S2 => by
    subst r1 r2
    have ew := dp_int S2.dp
    subst ew
    obtain ⟨B, F, fp, g1, g2, g3, ⟨f1, f2, ef, ⟨e1, ev, vs, q1, q2⟩, hr⟩, g5, g6⟩ := Sim.pop S2
    cases ev
    subst e1 ef g1
    have eq2 := dpAll_ints q2
    subst eq2
    refine ⟨sz_of (by show 2 ≤ 100000; decide), fun p hp => q _ _ _ ⟨p, b, rfl⟩ ?_⟩
    obtain ⟨pF, pB⟩ := pl_none hp
    have npb : p ≠ b := fun z => by
      rw [z, q1] at pF
      cases pF
    have np : p ∉ [b] ++ f2 := fun m => by
      rcases List.mem_append.mp m with m | m
      · exact npb (List.mem_singleton.mp m)
      · exact hr.dom p m pF
    refine ⟨B, upd F p (.lst [.ref b, .int z]), [p, b] ++ f2, pl_updF, dj_updF g2 pB, g3, ⟨[p, b], f2, rfl, ⟨rfl, rfl, upd_same, (upd_ne npb.symm).trans q1⟩, hr.loc fun a m => upd_ne fun z => np (by rw [← z]; exact List.mem_append_right _ m)⟩, List.nodup_cons.mpr ⟨np, g5⟩, fun a o e => ?_⟩
    obtain ⟨y1, y2⟩ := g6 a o e
    have na : a ≠ p := fun z => by
      rw [z, pF] at y1
      cases y1
    refine ⟨(upd_ne na).trans y1, fun m => ?_⟩
    rcases List.mem_cons.mp m with z | z
    · exact na z
    · exact y2 z
/-- less is told of a slot -/
theorem rt_wk {q : VK} {k : Nat} {c c0 c' : Cell} (hk : cs[k]? = some c) (h : ∀ v B F fp, c.ok v B F fp → c'.ok v B F fp) (r : RtOk B0 F0 (c0 :: cs.set k c') q) : RtOk B0 F0 (c0 :: cs) q := fun σ H v S => r σ H v (by
  have z := Sim.wk (k := k + 1) (c := c) (c' := c') S (by rw [List.getElem?_cons_succ]; exact hk) h
  exact z)
/-- less is told of what stands in front -/
theorem rt_front {q : VK} {c c' : Cell} (h : ∀ v B F fp, c.ok v B F fp → c'.ok v B F fp) (r : RtOk B0 F0 (c' :: cs) q) : RtOk B0 F0 (c :: cs) q := fun σ H v S => r σ H v (by
  have z := Sim.wk (k := 0) (c := c) (c' := c') S rfl h
  exact z)
end
end Z
namespace Z
open PySem L2 StX HT
section
variable {K : PySem.W.Frag} {B0 B1 F0 : Hp} {cs : List Cell} {te ta tb t1 t2 : TE} {D : Ends} {d : PyData} {R Ra Rb : Cell → Prop}
/-- what is walked, told by a property -/
def EvIX {α : Type} (wi : TI) (cs : List Cell) (P : α → Prop) (n : α → Nat) (Rc : α → Nat → Cell → Prop) : Prop := ∀ (B0 F0 : Hp) (ts : List Cell) (us σ : List (Option V)) (H : Hp), us.length = ts.length → Sim B0 F0 (ts ++ cs) (us ++ σ) H → ∀ Q : It → Hp → Prop,
  (∀ (x : α) (J : It) (B1 H' : Hp) (G : Hp → Prop) (Y : Nat → Hp → V → Hp → Prop), P x → Walk J (n x) G Y → Same B0 B1 → Sim B1 F0 (ts ++ cs) (us ++ σ) H' →
    (∀ cs' σ' H1, Sim B1 F0 cs' σ' H1 → G H1) → (∀ i cs' σ' H1 x' H2, i < n x → Sim B1 F0 cs' σ' H1 → Y i H1 x' H2 → ∃ c, Rc x i c ∧ Sim B1 F0 (c :: cs') (some x' :: σ') H2) → Q J H') → wi σ H Q
/-- data that is a tuple told by a property -/
abbrev isTs (K : PySem.W.Frag) (P : List PyData → Prop) : Cell → Prop := isD K (fun d => ∃ ds, d = .tuple ds ∧ P ds)
theorem ei_tupN {P : List PyData → Prop} (h : Ev te cs (isTs K P)) : EvIX (iTup K te) cs P (fun ds => ds.length) (fun ds => itemIs K ds) := fun B0 F0 ts us σ H hl S Q q =>
  h B0 F0 ts us σ H hl S _ fun c x H1 ⟨d, r, ds, ed, p⟩ S1 => by
    subst ed r
    obtain ⟨B, s0, hd, sH, S2⟩ := Sim.baseD (K := K) (ds := [.tuple ds]) (vs := [x]) S1 rfl
    cases hd with
    | cons hd _ =>
      obtain ⟨a, xs, rfl, hs, ha⟩ := dp_tup hd
      refine ⟨a, rfl, ⟨xs, sqT_same sH hs⟩, ?_⟩
      have w : Walk (Itt K a) ds.length (fun H => SqT K H a xs) (YAt xs) := by
        rw [← dpAll_len ha]
        exact walk_tup
      exact q ds _ B H1 _ _ p w s0 S2 (fun cs' σ' H' S' => sqT_same S'.sub hs) fun i cs' σ' H' x H2 hi S' ⟨eH, ex⟩ => by
        subst eH
        obtain ⟨d, e1, e2⟩ := dpAll_get ha ex
        exact ⟨_, ⟨d, e1, rfl⟩, S'.add e2⟩
theorem ev_lcX {α : Type} {wi : TI} {g : TG} {tq : TT} {vs js : List Nat} {P : α → Prop} {n : α → Nat} {Rc : α → Nat → Cell → Prop} (hi : EvIX wi cs P n Rc) (hv : ∀ k ∈ vs, cs[k]? = some cNo) (hj : ∀ j ∈ js, j ∈ vs) (Pv : α → Nat → List PyData → Prop) (h0 : ∀ x, P x → Pv x 0 [])
    (hz : ∀ x i acc, P x → i < n x → Pv x i acc → acc.length < 100000)
    (hs : ∀ x i c acc, P x → i < n x → Rc x i c → Pv x i acc → ∃ (cs2 : List Cell) (W : Bool → Prop), TgOk g js c cs cs2 ∧ cs2.length = cs.length ∧ (∀ k, k ∉ vs → cs2[k]? = cs[k]?) ∧ EvT tq cs2 W ∧ (W true → Ev te cs2 (isD K (fun d => Pv x (i + 1) (acc ++ [d])))) ∧ (W false → Pv x (i + 1) acc)) :
    Ev (tLc wi g tq te vs) cs (fun c => ∃ ds, isO K ds c ∧ ∃ x, P x ∧ Pv x (n x) ds) := fun B0 F0 ts us σ H hl S Q q =>
  hi B0 F0 ts us σ H hl S _ fun x0 J B1 H1 G Y p0 w sB S1 hG hY D hD => by
    have hlen : σ.length = cs.length := by
      have := S1.len
      simp only [List.length_append] at this
      omega
    refine lc_it w (fun i H => ∃ acc, Pv x0 i acc ∧ Sim B1 F0 (cOwn K D acc :: (ts ++ cs)) (some (.ref D) :: (us ++ σ)) H) ⟨[], h0 x0 p0, Sim.newOwn (ts := []) (us := []) S1 rfl hD fun _ _ _ _ => .nil⟩ (fun i H _ ⟨acc, _, S'⟩ => hG _ _ _ S') ?_ ?_
    · intro i x H2 H3 hi' ⟨acc, pa, S2⟩ y
      obtain ⟨c, rc, S3⟩ := hY i _ _ H2 x H3 hi' S2 y
      obtain ⟨cs2, W, htg, l2, n2, htt, hte, hno⟩ := hs x0 i c acc p0 hi' rc pa
      have S4 : Sim B1 F0 (c :: ((cOwn K D acc :: ts) ++ cs)) (some x :: ((some (.ref D) :: us) ++ wipe σ vs)) H3 := by
        refine Sim.weakAt (ts := c :: cOwn K D acc :: ts) (us := some x :: some (.ref D) :: us) (congrArg (· + 2) hl) S3 rfl (wipe_length σ vs) fun k => ?_
        by_cases hk : k ∈ vs
        · exact .inl (hv k hk)
        · exact .inr ⟨rfl, wipe_get hk⟩
      refine htg B1 F0 (cOwn K D acc :: ts) (some (.ref D) :: us) (wipe σ vs) H3 x (congrArg (· + 1) hl) S4 _ fun σ2 H4 m1 m2 S5 => ?_
      have m1' : σ2.length = σ.length := m1.trans (wipe_length σ vs)
      refine ⟨wipe_ext hj m1' m2, ?_⟩
      have back : ∀ {c : Cell} {H : Hp}, Sim B1 F0 (c :: (ts ++ cs2)) (some (.ref D) :: (us ++ σ2)) H → Sim B1 F0 (c :: (ts ++ cs)) (some (.ref D) :: (us ++ σ)) H := fun {c H} S =>
        Sim.weakAt (ts := c :: ts) (us := some (.ref D) :: us) (congrArg (· + 1) hl) S l2.symm m1'.symm fun k => by
          by_cases hk : k ∈ vs
          · exact .inl (hv k hk)
          · exact .inr ⟨(n2 k hk).symm, ((m2 k fun m => hk (hj k m)).trans (wipe_get hk)).symm⟩
      refine htt B1 F0 (cOwn K D acc :: ts) (some (.ref D) :: us) σ2 H4 (congrArg (· + 1) hl) S5 _ fun b H5 hb S6 => ?_
      cases b with
      | false => exact ⟨acc, hno hb, back S6⟩
      | true =>
        refine hte hb B1 F0 (cOwn K D acc :: ts) (some (.ref D) :: us) σ2 H5 (congrArg (· + 1) hl) S6 _ fun c' v H6 ⟨d, ed, pd⟩ S7 => ?_
        subst ed
        obtain ⟨_, xs, e1, e2⟩ := S7.ownAt (i := 1) (K := K) (l := D) (ds := acc) rfl
        refine ⟨xs, e1, ?_, acc ++ [d], pd, back ?_⟩
        · rw [dpAll_len e2]
          exact sz_lt (hz x0 i acc p0 hi' pa)
        · refine Sim.mutate (ts := [cD K d]) (us := [some v]) (i := 0) (cs := cOwn K D acc :: (ts ++ cs2)) (σ := some (.ref D) :: (us ++ σ2)) S7 rfl rfl fun B F f1 ws h7 h8 h9 => ?_
          rw [e1] at h9
          cases h9
          exact dpAll_app h8 (by
            obtain ⟨g1, g2, _, ⟨_, z, ez, rz⟩, _⟩ := h7
            cases ez
            exact rz)
    · intro H2 ⟨acc, pa, S2⟩
      exact q _ _ _ ⟨acc, ⟨D, rfl⟩, x0, p0, pa⟩ (S2.root sB)
/-- [f(x) for x in a tuple of ints told by a property] -/
theorem ev_lcT {j : Nat} {P : List Int → Prop} (f : Int → Int) (h : Ev ta cs (isTs K (fun ds => ∃ ns : List Int, ds = ns.map .int ∧ P ns))) (hv : cs[j]? = some cNo) (hz : ∀ ns, P ns → ns.length ≤ 99999) (he : ∀ x : Int, Ev te (cs.set j (cI K x)) (Is (cI K (f x)))) :
    Ev (tLc (iTup K ta) (gName j) tYes te [j]) cs (fun c => ∃ ds, isO K ds c ∧ ∃ ns, P ns ∧ ds = (ns.map f).map .int) :=
  (ev_lcX (js := [j]) (ei_tupN h) (fun k hk => by rw [mem1 hk]; exact hv) (fun j hj => hj) (fun ds i acc => acc = ((ds.take i).map fun d => match d with
      | .int n => PyData.int (f n)
      | d => d)) (fun ds _ => by rw [List.take_zero]; rfl) (fun ds i acc ⟨ns, e, p⟩ hi ea => by
      rw [ea, List.length_map, List.length_take]
      have := hz ns p
      rw [e, List.length_map] at hi
      omega) (fun ds i c acc ⟨ns, e, p⟩ hi ⟨d, hd, ec⟩ ea => by
      subst e
      obtain ⟨x, hx, ec'⟩ := item_ints (K := K) ⟨d, hd, rfl⟩
      subst ec
      have ed : d = .int x := by
        have q := hd
        rw [List.getElem?_map, hx] at q
        exact (Option.some.inj q).symm
      subst ed
      refine ⟨cs.set j (cI K x), fun b => b = true, tg_name, List.length_set .., fun k hk => List.getElem?_set_ne fun e => hk (by simp [e]), et_yes, fun _ => (he x).imp fun c r => ⟨.int (f x), r, ?_⟩, fun z => by cases z⟩
      rw [ea, List.take_succ, hd, List.map_append]
      rfl)).imp fun c ⟨ds, o, xs, ⟨ns, e, p⟩, e2⟩ => ⟨ds, o, ns, p, by
      rw [e2, List.take_length, e, List.map_map, List.map_map]
      rfl⟩
/-- t[:k] of a tuple told by a property -/
theorem ev_slTN {P : List PyData → Prop} {k : Nat} (h : Ev te cs (isTs K P)) (hk : Ev tb cs (Is (cI K k))) : Ev (tSl (rSlA K) te tNoPart (tPart tb)) cs (isTs K (fun ds => ∃ es, P es ∧ ds = es.take k)) := fun B0 F0 ts us σ H hl S Q q =>
  h B0 F0 ts us σ H hl S _ fun c v H1 ⟨d, r, ds, ed, p⟩ S1 => by
    subst ed r
    refine eo_none B0 F0 (_ :: ts) (some v :: us) σ H1 (congrArg (· + 1) hl) S1 _ fun H2 S2 => eo_some hk B0 F0 (_ :: ts) (some v :: us) σ H2 (congrArg (· + 1) hl) S2 _ fun H3 S3 => ?_
    obtain ⟨B, hd, O⟩ := Sim.opnD1 (cs := ts ++ cs) S3
    obtain ⟨a, xs, rfl, hs, ha⟩ := dp_tup hd
    have ec : cutD ds none (some (k : Int)) = ds.take k := by
      unfold cutD
      rw [sIx_nat, sIx_none, List.drop_zero, Nat.sub_zero]
      by_cases z : k ≤ ds.length
      · rw [Nat.min_eq_left z]
      · rw [Nat.min_eq_right (by omega), List.take_of_length_le (Nat.le_refl _), List.take_of_length_le (by omega)]
    refine ⟨a, xs, rfl, sqT_same O.same hs, fun z => ?_, fun _ p' hp => ?_⟩
    · have e : cutD ds none (some (k : Int)) = ds := by
        unfold cutD
        rw [← dpAll_len ha, z.1, z.2, List.drop_zero, Nat.sub_zero, dpAll_len ha, List.take_length]
      refine q _ _ _ ⟨.tuple ds, rfl, ds, rfl, ds, p, ?_⟩ (O.push _ _ hd)
      rw [← ec, e]
    · refine q _ _ _ ⟨.tuple (ds.take k), rfl, _, rfl, ds, p, rfl⟩ (O.new p' _ _ hp fun hB => ?_)
      rw [← ec]
      exact .tup (SqT.of upd_same) (dpAll_same (same_upd hB) (cut_dp ha none (some (k : Int))))
/-- the greatest -/
def mxA : List Int → Int
  | [] => 0
  | c :: l => max (c.natAbs : Int) (mxA l)
theorem mxA_mem : ∀ l : List Int, mxA l ∈ (0 : Int) :: l.map fun z => (z.natAbs : Int)
  | [] => by simp [mxA]
  | c :: l => by
    have ih := mxA_mem l
    show max (c.natAbs : Int) (mxA l) ∈ _
    by_cases h : mxA l ≤ (c.natAbs : Int)
    · rw [Int.max_eq_left h]
      simp
    · rw [Int.max_eq_right (by omega)]
      rcases List.mem_cons.mp ih with e | e
      · rw [e]
        simp
      · exact List.mem_cons_of_mem _ (List.mem_cons_of_mem _ e)
theorem mxA_le : ∀ (l : List Int), ∀ y ∈ (0 : Int) :: l.map (fun z => (z.natAbs : Int)), y ≤ mxA l
  | [], y, h => by
    simp at h
    rw [h]
    exact Int.le_refl _
  | c :: l, y, h => by
    have ih := mxA_le l
    show y ≤ max (c.natAbs : Int) (mxA l)
    rcases List.mem_cons.mp h with e | e
    · have := ih 0 (List.mem_cons_self ..)
      omega
    · rcases List.mem_cons.mp e with e2 | e2
      · have e2 : y = (c.natAbs : Int) := e2
        omega
      · have := ih y (List.mem_cons_of_mem _ e2)
        omega
theorem mxA_bd {l : List Int} {y : Int} (h : y ∈ l) : (y.natAbs : Int) ≤ mxA l := mxA_le l _ (List.mem_cons_of_mem _ (List.mem_map.mpr ⟨y, h, rfl⟩))
/-- max([0] + [abs(entry) for entry in ..]) -/
theorem ev_mxA {l : List Int} {wi : TI} {n j : Nat} {Rc : Nat → Cell → Prop} (hi : EvI wi cs n Rc) (hn : n = l.length) (hR : ∀ i c, Rc i c → ∃ x, l[i]? = some x ∧ c = cI K x) (hv : cs[j]? = some cNo) (hz : l.length ≤ 99999) {r : List V → Hp → VK → Prop}
    (he : ∀ x : Int, Ev te (cs.set j (cI K x)) (Is (cI K (x.natAbs : Int)))) : Ev (tCB (rMax K) (tCons (tOp rCat (tLst (tCons (tC (.int 0)) tNil)) (tLc wi (gName j) tYes te [j])) tNil)) cs (Is (cI K (mxA l))) := by
  refine ev_maxL (ns := 0 :: l.map fun z => (z.natAbs : Int)) (Ev.rd (Ev.freeze (Ev.own (ev_cat (ev_lst (ds := [.int 0]) (ea_cons ev_int ea_nil) (by decide)) (ev_lc1A (K := K) l PyData.int (fun z => .int (z.natAbs : Int)) hi hn hR hv hz fun x _ => he x) ?_) ?_))) (mxA_mem l) (mxA_le l)
  · rw [List.length_map]
    simp
    omega
  · rw [List.map_cons, List.map_map]
    rfl
end
end Z
namespace Z
open PySem L2 StX HT
section
variable {X : Cx}
theorem ip_ofR {op : Operator} {r : R2} (h : OpR X (inplaceOp op) r) : PIp X op r := fun pins s σ H x y v u Q I r1 r2 q => h pins s σ H x y v u Q I r1 r2 q
end
section
variable {K : PySem.W.Frag} {B0 F0 : Hp} {cs : List Cell} {te ta tb : TE} {D : Ends} {d : PyData} {u : TS}
abbrev cS (K : PySem.W.Frag) (x : Str) : Cell := cD K (.str x)
/-- two data told, scalar data out -/
theorem ev_op2D {r : R2} {d1 d2 d3 : PyData} (ha : Ev ta cs (Is (cD K d1))) (hb : Ev tb cs (Is (cD K d2))) (hr : ∀ (H : Hp) (x y : V), Dp K H x d1 → Dp K H y d2 → ∀ Q : VK, (∀ v, (∀ B, Dp K B v d3) → Q v H) → r x y H Q) : Ev (tOp r ta tb) cs (Is (cD K d3)) :=
  ev_opD (P1 := fun d => d = d1) (P2 := fun d => d = d2) ha.isd hb.isd fun e1 e2 p1 p2 H x y h1 h2 Q q => by
    subst p1 p2
    exact hr H x y h1 h2 Q fun v hv => q d3 v rfl hv
theorem ev_addS {x y : Str} (ha : Ev ta cs (Is (cS K x))) (hb : Ev tb cs (Is (cS K y))) (hz : x.length + y.length ≤ 100000) : Ev (tOp (fun x y H Q => ∃ i j, x = .str i ∧ y = .str j ∧ i.length + j.length ≤ sizeLine ∧ Q (.str (i ++ j)) H) ta tb) cs (Is (cS K (x ++ y))) :=
  ev_op2D ha hb fun H v w h1 h2 Q q => ⟨x, y, dp_str h1, dp_str h2, sz_of hz, q _ fun _ => .str _⟩
/-- x in z, x one sign -/
theorem ev_inC {c : Nat} {z : Str} (ha : Ev ta cs (Is (cS K ⟨#[c]⟩))) (hb : Ev tb cs (Is (cS K z))) : Ev (tOp (fun x y H Q => ∃ (c : Nat) (z : Str), x = .str ⟨#[c]⟩ ∧ y = .str z ∧ Q (.bl (decide (c ∈ z.cps.toList))) H) ta tb) cs (Is (cB K (decide (c ∈ z.cps.toList)))) :=
  ev_op2D ha hb fun H v w h1 h2 Q q => ⟨c, z, dp_str h1, dp_str h2, q _ fun _ => .bl _⟩
theorem ev_notInC {c : Nat} {z : Str} (ha : Ev ta cs (Is (cS K ⟨#[c]⟩))) (hb : Ev tb cs (Is (cS K z))) : Ev (tOp (fun x y H Q => ∃ (c : Nat) (z : Str), x = .str ⟨#[c]⟩ ∧ y = .str z ∧ Q (.bl (!decide (c ∈ z.cps.toList))) H) ta tb) cs (Is (cB K (!decide (c ∈ z.cps.toList)))) :=
  ev_op2D ha hb fun H v w h1 h2 Q q => ⟨c, z, dp_str h1, dp_str h2, q _ fun _ => .bl _⟩
theorem dpAll_strs : ∀ {vs : List V} {ss : List Str} {H : Hp}, DpAll K H vs (ss.map PyData.str) → vs = ss.map V.str
  | _, [], _, .nil => rfl
  | _, n :: ns, _, .cons h r => by
    cases h
    rw [dpAll_strs r]
    rfl
theorem inV_strs (x : Str) : ∀ ss : List Str, inV (.str x) (ss.map V.str) = ss.any fun s => s == x
  | [] => rfl
  | s :: ss => congrArg ((s == x) || ·) (inV_strs x ss)
theorem flat_strs : ∀ ss : List Str, (ss.map V.str).all flatV = true
  | [] => rfl
  | _ :: ss => flat_strs ss
/-- x in (..), texts -/
theorem ev_inTs {x : Str} {ss : List Str} (ha : Ev ta cs (Is (cS K x))) (hb : Ev tb cs (Is (cD K (.tuple (ss.map .str))))) : Ev (tOp (rIn K false) ta tb) cs (Is (cB K (ss.any fun s => s == x))) :=
  ev_op2D ha hb fun H v w h1 h2 Q q => by
    obtain ⟨a, xs, rfl, hs, hd⟩ := dp_tup h2
    have e := dp_str h1
    have e2 := dpAll_strs hd
    subst e e2
    exact ⟨a, _, rfl, .inr hs, rfl, flat_strs ss, by
      show Q (.bl (inV (.str x) (ss.map V.str))) H
      rw [inV_strs]
      exact q _ fun _ => .bl _⟩
theorem ev_inLs {x : Str} {ss : List Str} (ha : Ev ta cs (Is (cS K x))) (hb : Ev tb cs (Is (cD K (.list (ss.map .str))))) : Ev (tOp (rIn K false) ta tb) cs (Is (cB K (ss.any fun s => s == x))) :=
  ev_op2D ha hb fun H v w h1 h2 Q q => by
    obtain ⟨a, xs, rfl, hs, hd⟩ := dp_lst h2
    have e := dp_str h1
    have e2 := dpAll_strs hd
    subst e e2
    exact ⟨a, _, rfl, .inl hs, rfl, flat_strs ss, by
      show Q (.bl (inV (.str x) (ss.map V.str))) H
      rw [inV_strs]
      exact q _ fun _ => .bl _⟩
theorem ev_lenS {z : Str} (h : Ev te cs (Is (cS K z))) (hz : z.length ≤ 100000) : Ev (tCB (fun xs H Q => ∃ z, xs = [.str z] ∧ z.length ≤ sizeLine ∧ Q (.int z.length) H) (tCons te tNil)) cs (Is (cI K z.length)) :=
  ev_cb1 h fun c r B0 F0 ts us σ H x hl S Q q => by
    subst r
    exact ⟨z, congrArg (fun y => [y]) (dp_str S.dp), sz_of hz, q _ _ _ rfl (S.pop.pushD fun _ => .int _)⟩
theorem ev_strI {n : Int} (h : Ev te cs (Is (cI K n))) (hz : n.natAbs.log2 < 1920) : Ev (tCB (fun xs H Q => ∃ i, xs = [.int i] ∧ i.natAbs.log2 < 1920 ∧ Q (.str (toString i)) H) (tCons te tNil)) cs (Is (cS K (PySem.Str.ofString (toString n)))) :=
  ev_cb1 h fun c r B0 F0 ts us σ H x hl S Q q => by
    subst r
    exact ⟨n, congrArg (fun y => [y]) (dp_int S.dp), hz, q _ _ _ rfl (S.pop.pushD fun _ => .str _)⟩
theorem ev_intS {z : Str} {n : Int} (h : Ev te cs (Is (cS K z))) (hn : PySem.intText? z = some n) (hz : z.length ≤ 640) : Ev (tCB (fun xs H Q => ∃ a n, xs = [.str a] ∧ PySem.intText? a = some n ∧ a.length ≤ 640 ∧ Q (.int n) H) (tCons te tNil)) cs (Is (cI K n)) :=
  ev_cb1 h fun c r B0 F0 ts us σ H x hl S Q q => by
    subst r
    exact ⟨z, n, congrArg (fun y => [y]) (dp_str S.dp), hn, hz, q _ _ _ rfl (S.pop.pushD fun _ => .int _)⟩
/-- z[i] -/
theorem ev_ixS {z : Str} {i : Int} {c : Nat} (ha : Ev ta cs (Is (cS K z))) (hb : Ev tb cs (Is (cI K i))) (hz : z.length ≤ 100000) (hi : atI z.cps.toList i = some c) : Ev (tOp rIxS ta tb) cs (Is (cS K ⟨#[c]⟩)) :=
  ev_op2D ha hb fun H v w h1 h2 Q q => ⟨z, i, c, dp_str h1, dp_int h2, sz_of hz, hi, q _ fun _ => .str _⟩
/-- for sign in z -/
theorem ei_str {z : Str} (h : Ev te cs (Is (cS K z))) : EvI (iStr te) cs z.cps.size (fun i c' => ∃ c, z.cps[i]? = some c ∧ c' = cS K ⟨#[c]⟩) := fun B0 F0 ts us σ H hl S Q q =>
  h B0 F0 ts us σ H hl S _ fun c x H1 r S1 => by
    subst r
    have ex := dp_str S1.dp
    exact ⟨z, ex, q _ B0 H1 _ _ walk_str (fun _ _ h => h) S1.pop (fun _ _ _ _ => trivial) fun i cs' σ' H' x H2 hi S' ⟨eH, k, hk, ex⟩ => by
      subst eH
      subst ex
      exact ⟨_, ⟨k, hk, rfl⟩, S'.pushD fun _ => .str _⟩⟩
/-- run += e, texts -/
theorem go_augS {i : Nat} {x y : Str} (hx : cs[i]? = some (cS K x)) (h : Ev te cs (Is (cS K y))) (hz : x.length + y.length ≤ 100000) (k : Go B0 F0 (cs.set i (cS K (x ++ y))) D.nx) :
    Go B0 F0 cs (tAug i te (fun x y H Q => ∃ i j, x = .str i ∧ y = .str j ∧ i.length + j.length ≤ sizeLine ∧ Q (.str (i ++ j)) H) D) := fun σ H S => by
  obtain ⟨w, ew, S1⟩ := S.dup cD_pure hx
  obtain ⟨B, F, fp, h1, h2, h3, ⟨f1, f2, ef, ⟨_, v, ex, r⟩, _⟩, _⟩ := S1
  subst ex
  have ev := dp_str r
  subst ev
  refine ⟨_, ew, h B0 F0 [] [] σ H rfl S _ fun c v H' r S' => ?_⟩
  subst r
  exact ⟨x, y, rfl, dp_str S'.dp, sz_of hz, k _ _ ((S'.pop.pushD fun _ => .str _).set i)⟩
theorem gs_augS {i : Nat} {x y : Str} (hx : cs[i]? = some (cS K x)) (h : Ev te cs (Is (cS K y))) (hz : x.length + y.length ≤ 100000) (k : Go B0 F0 (cs.set i (cS K (x ++ y))) (u D)) :
    Go B0 F0 cs (tSeq (tAug i te (fun x y H Q => ∃ i j, x = .str i ∧ y = .str j ∧ i.length + j.length ≤ sizeLine ∧ Q (.str (i ++ j)) H)) u D) := go_seq (go_augS hx h hz k)
theorem sh_str {x : Str} (h : PyData.canLay0 (.str x) = true) : SeqAt.shaped (.str x) = true := by
  show (PyData.canLay0 (.str x) && decide (0 ≤ 64)) = true
  rw [h]
  rfl
/-- == of texts -/
theorem ev_eqS {x y : Str} (ha : Ev ta cs (Is (cS K x))) (hb : Ev tb cs (Is (cS K y))) (hx : PyData.canLay0 (.str x) = true) (hy : PyData.canLay0 (.str y) = true) : Ev (tOp (rEqD K) ta tb) cs (Is (cB K (x == y))) := (ev_eq ha.rd hb.rd (sh_str hx) (sh_str hy)).bo rfl
theorem ev_neS {x y : Str} (ha : Ev ta cs (Is (cS K x))) (hb : Ev tb cs (Is (cS K y))) (hx : PyData.canLay0 (.str x) = true) (hy : PyData.canLay0 (.str y) = true) : Ev (tOp (rNeD K) ta tb) cs (Is (cB K (!(x == y)))) := (ev_ne ha.rd hb.rd (sh_str hx) (sh_str hy)).bo rfl
end
end Z
namespace Z
open PySem L2 StX
section
variable {K : PySem.W.Frag} {B0 F0 : Hp} {cs : List Cell} {te ta : TE} {D : Ends} {u : TS}
theorem go_fldAug {C p : Addr} {ns : List Str} {fs : List Cell} {f : Str} {k i : Nat} {g : Int → Int → Int} {x y : Int} (he : Ev ta cs (Is (cV (.ref p)))) (hk : cs[k]? = some (cIns C p ns fs)) (hi : ixF f ns = i) (hin : i < ns.length) (hc : fs[i]? = some (cI K x)) (hn : ns.length < 1000) (cl : Cls K C) (na : NoAttr K C f)
    (h : Ev te cs (Is (cI K y))) (kk : Go B0 F0 (cs.set k (cIns C p ns (fs.set i (cI K (g x y))))) D.nx) : Go B0 F0 cs (sFldAug K ta te (ipI g) f D) := fun σ H S =>
  he B0 F0 [] [] σ H rfl S _ fun c v H1 r S1 => by
    subst r
    have ex := S1.pin (i := 0) cV_pin rfl
    cases (Option.some.inj (Option.some.inj ex))
    obtain ⟨w, B, F, mid, e1, e2, dj, nd, ⟨dx, vals, f2, h1, h2, h3, h4, h5, h6⟩, _, _, _⟩ := Sim.openAt (k := k) (cs := cs) S1.pop hk
    obtain ⟨q, pre, m2, post, g1, g2, ⟨_, z, ez, rz⟩, _⟩ := Holds.get h6 hc
    subst ez
    have ez := dp_int rz
    subst ez
    have g1' : vals[i]? = some (.int x) := by
      obtain ⟨y', e3, e4⟩ := map_some_get g1
      cases e3
      exact e4
    refine ⟨p, C, dx, _, .int x, rfl, by rw [e2]; exact pl_F h3, cl, na, zip_lookup hi hin g1', ?_⟩
    refine h B0 F0 [cV (.ref p)] [some (.ref p)] σ H1 rfl S1 _ fun c2 v2 H2 r2 S2 => ?_
    subst r2
    refine ⟨x, y, rfl, dp_int S2.dp, ?_⟩
    have S3 : Sim B0 F0 (cI K (g x y) :: cs) (some (.int (g x y)) :: σ) H2 := (Sim.pop (Sim.pop S2)).pushD fun _ => .int _
    obtain ⟨dx', vals', q1, q2, q3, q4⟩ := Sim.field (k := k) S3 hk (List.getElem?_eq_some_iff.mp hc).1
    refine ⟨dx', _, q1, by rw [List.length_zip]; omega, ?_⟩
    rw [putF_zip hi hin q2]
    exact kk σ _ q4
theorem gs_fldAug {C p : Addr} {ns : List Str} {fs : List Cell} {f : Str} {k i : Nat} {g : Int → Int → Int} {x y : Int} (he : Ev ta cs (Is (cV (.ref p)))) (hk : cs[k]? = some (cIns C p ns fs)) (hi : ixF f ns = i) (hin : i < ns.length) (hc : fs[i]? = some (cI K x)) (hn : ns.length < 1000) (cl : Cls K C) (na : NoAttr K C f)
    (h : Ev te cs (Is (cI K y))) (kk : Go B0 F0 (cs.set k (cIns C p ns (fs.set i (cI K (g x y))))) (u D)) : Go B0 F0 cs (tSeq (sFldAug K ta te (ipI g) f) u D) := go_seq (go_fldAug he hk hi hin hc hn cl na h kk)
end
end Z
namespace Z
open PySem L2 StX HT
section
variable {K : PySem.W.Frag} {B0 B1 F0 : Hp} {cs : List Cell} {te ta tb : TE} {D : Ends} {d : PyData}
theorem ev_lcS {wi : TI} {g : TG} {vs js : List Nat} {n : Nat} {Rc : Nat → Cell → Prop} (csI : Nat → List Cell) (hi : EvI wi (csI 0) n Rc) (hv : ∀ i, ∀ k ∈ vs, (csI i)[k]? = some cNo) (hj : ∀ j ∈ js, j ∈ vs) (Pv : Nat → List PyData → Prop) (h0 : Pv 0 [])
    (hz : ∀ i acc, i < n → Pv i acc → acc.length < 100000)
    (hs : ∀ i c acc, i < n → Rc i c → Pv i acc → ∃ cs2 : List Cell, TgOk g js c (csI i) cs2 ∧ cs2.length = (csI i).length ∧ (∀ k, k ∉ vs → cs2[k]? = (csI i)[k]?) ∧ EvX te cs2 (fun c' cs3 => ∃ d, c' = cD K d ∧ Pv (i + 1) (acc ++ [d]) ∧ cs3.length = (csI (i + 1)).length ∧ ∀ k, k ∉ vs → cs3[k]? = (csI (i + 1))[k]?)) :
    EvX (tLc wi g tYes te vs) (csI 0) (fun c cs' => cs' = csI n ∧ ∃ ds, isO K ds c ∧ Pv n ds) := fun B0 F0 ts us σ H hl S Q q =>
  hi B0 F0 ts us σ H hl S _ fun J B1 H1 G Y w sB S1 hG hY D hD => by
    refine lc_it w (fun i H => ∃ acc, Pv i acc ∧ Sim B1 F0 (cOwn K D acc :: (ts ++ csI i)) (some (.ref D) :: (us ++ σ)) H) ⟨[], h0, Sim.newOwn (ts := []) (us := []) S1 rfl hD fun _ _ _ _ => .nil⟩ (fun i H _ ⟨acc, _, S'⟩ => hG _ _ _ S') ?_ ?_
    · intro i x H2 H3 hi' ⟨acc, pa, S2⟩ y
      obtain ⟨c, rc, S3⟩ := hY i _ _ H2 x H3 hi' S2 y
      obtain ⟨cs2, htg, l2, n2, hte⟩ := hs i c acc hi' rc pa
      have S4 : Sim B1 F0 (c :: ((cOwn K D acc :: ts) ++ csI i)) (some x :: ((some (.ref D) :: us) ++ wipe σ vs)) H3 := by
        refine Sim.weakAt (ts := c :: cOwn K D acc :: ts) (us := some x :: some (.ref D) :: us) (congrArg (· + 2) hl) S3 rfl (wipe_length σ vs) fun k => ?_
        by_cases hk : k ∈ vs
        · exact .inl (hv i k hk)
        · exact .inr ⟨rfl, wipe_get hk⟩
      refine htg B1 F0 (cOwn K D acc :: ts) (some (.ref D) :: us) (wipe σ vs) H3 x (congrArg (· + 1) hl) S4 _ fun σ2 H4 m1 m2 S5 => ?_
      have m1' : σ2.length = σ.length := m1.trans (wipe_length σ vs)
      refine ⟨wipe_ext hj m1' m2, ?_⟩
      refine (et_yes (cs := cs2)) B1 F0 (cOwn K D acc :: ts) (some (.ref D) :: us) σ2 H4 (congrArg (· + 1) hl) S5 _ fun b H5 hb S6 => ?_
      subst hb
      refine hte B1 F0 (cOwn K D acc :: ts) (some (.ref D) :: us) σ2 H5 (congrArg (· + 1) hl) S6 _ fun c' v cs3 H6 ⟨d, ed, pd, l3, n3⟩ S7 => ?_
      subst ed
      obtain ⟨_, xs, e1, e2⟩ := S7.ownAt (i := 1) (K := K) (l := D) (ds := acc) rfl
      refine ⟨xs, e1, ?_, acc ++ [d], pd, ?_⟩
      · rw [dpAll_len e2]
        exact sz_lt (hz i acc hi' pa)
      · have S8 := Sim.mutate (ts := [cD K d]) (us := [some v]) (i := 0) (vs' := xs ++ [v]) (ds' := acc ++ [d]) (cs := cOwn K D acc :: (ts ++ cs3)) (σ := some (.ref D) :: (us ++ σ2)) S7 rfl rfl fun B F f1 ws h7 h8 h9 => by
          rw [e1] at h9
          cases h9
          exact dpAll_app h8 (by
            obtain ⟨g1, g2, _, ⟨_, z, ez, rz⟩, _⟩ := h7
            cases ez
            exact rz)
        exact Sim.weakAt (ts := cOwn K D (acc ++ [d]) :: ts) (us := some (.ref D) :: us) (congrArg (· + 1) hl) S8 l3.symm m1'.symm fun k => by
          by_cases hk : k ∈ vs
          · exact .inl (hv (i + 1) k hk)
          · exact .inr ⟨(n3 k hk).symm, ((m2 k fun m => hk (hj k m)).trans (wipe_get hk)).symm⟩
    · intro H2 ⟨acc, pa, S2⟩
      exact q _ _ _ _ ⟨rfl, acc, ⟨D, rfl⟩, pa⟩ (S2.root sB)
theorem Sim.addAll {B0 F0 H : Hp} {σ : List (Option V)} : ∀ {xs : List V} {ds : List PyData}, Sim B0 F0 cs σ H → DpAll K B0 xs ds → Sim B0 F0 (ds.map (cD K) ++ cs) (xs.map some ++ σ) H
  | _, _, S, .nil => S
  | _, _, S, .cons h r => (Sim.addAll S r).add h
theorem ea_star {ds es : List PyData} {t : TA} (h : Ev te cs (Is (cD K (.list ds)))) (hr : EvA t cs (fun as => as = es.map (cD K))) : EvA (tStar K te t) cs (fun as => as = (ds ++ es).map (cD K)) := fun B0 F0 ts us σ H hl S Q q =>
  h B0 F0 ts us σ H hl S _ fun c x H1 r S1 => by
    subst r
    obtain ⟨B, s0, hd, sH, S2⟩ := Sim.baseD (K := K) (ds := [.list ds]) (vs := [x]) S1 rfl
    cases hd with
    | cons hd _ =>
      obtain ⟨a, xs, rfl, hs, ha⟩ := dp_lst hd
      refine ⟨a, xs, rfl, .inr (sH.seq hs), ?_⟩
      refine hr B F0 ts us σ H1 hl S2 _ fun as vs H2 r2 hv S3 => ?_
      subst r2
      refine q _ _ H2 rfl (by rw [List.length_append, List.length_map, List.length_append, dpAll_len ha, hv, List.length_map]) ?_
      have S4 := (Sim.addAll S3 ha).root s0
      rw [List.map_append, List.map_append, List.append_assoc, List.append_assoc]
      exact S4
theorem ev_join {x : Str} {ss : List Str} {r : V → List V → Hp → VK → Prop} (ha : Ev ta cs (Is (cS K x))) (h : Ev te cs (Is (cD K (.list (ss.map .str))))) (hr : ∀ (H : Hp) (p : Addr) (Q : VK), SqL K H p (ss.map V.str) → Q (.str (Txt.join x ss)) H → r (.str x) [.ref p] H Q) : Ev (tBM K "str" r ta (tCons te tNil)) cs (Is (cS K (Txt.join x ss))) := fun B0 F0 ts us σ H hl S Q q =>
  ha B0 F0 ts us σ H hl S _ fun c v H1 r1 S1 => by
    subst r1
    have ev := dp_str S1.dp
    subst ev
    refine ⟨rfl, h B0 F0 (_ :: ts) (some _ :: us) σ H1 (congrArg (· + 1) hl) S1 _ fun c2 w H2 r2 S2 => ?_⟩
    subst r2
    obtain ⟨a, xs, rfl, hs, hd⟩ := dp_lst S2.dp
    have e := dpAll_strs hd
    subst e
    exact hr H2 a Q hs (q _ _ _ rfl ((Sim.pop S2).pop.pushD fun _ => .str _))
end
end Z
namespace Z
open PySem L2 StX HT
/-- what K tells of the bound on an int's digits -/
def DigK (K : PySem.W.Frag) : Prop := PySem.W.nsOkIn K cStatics = true ∧ PySem.W.nsIn K cStatics "sys.int_max_str_digits" = some none
theorem DigK.no {K : PySem.W.Frag} {h : Heap} (d : DigK K) (X : K.In h) : h.NoDigits := ⟨_, .of_isNs (PySem.W.isNs_of_in X d.1), PySem.W.nsMap_none_of_in X d.1 d.2⟩
section
variable {X : Cx}
theorem vals1' {x : V} {us : List Value} (h : Vals [x] us) : ∃ u, us = [u] ∧ RelV x u := by
  cases h with
  | cons r t => cases t with | nil => exact ⟨_, rfl, r⟩
theorem call_str_big (dk : DigK X.K) (hc : X.calm = true) : CallR X (.type "str") (fun xs H Q => ∃ i, xs = [.int i] ∧ i.natAbs < 10 ^ 4300 ∧ Q (.str (toString i)) H) := by
  intro pins s σ H xs us Q I r h
  obtain ⟨i, rfl, hz, q⟩ := h
  obtain ⟨u, rfl, t, rfl⟩ := vals1' r
  exact PyProof.Rows.str_of_int_or (I.ok.hd hc) (dk.no I.kIn) (fun _ => ⟨.str _, H, I.tok _, ⟨_, rfl⟩, q⟩) fun hge => absurd hz (Nat.not_lt.mpr hge)
theorem op_mulS : OpR X (binaryOp .Mult) (fun x y H Q => ∃ i n, x = .str i ∧ y = .int n ∧ i.length ≤ 1000 ∧ 0 ≤ n ∧ n ≤ 1000 ∧ Q (.str (Txt.mul i n)) H) := by
  intro pins s σ H x y v u Q I rx ry h
  obtain ⟨i, n, rfl, rfl, hz, h0, h1, q⟩ := h
  obtain ⟨t, rfl⟩ := rx
  obtain ⟨t', rfl⟩ := ry
  exact SB.mul (PyProof.Rows.mulOk_of 1000 1000 hz (by omega) (by omega) (by decide) (by decide)) fun t' k => ⟨.str _, H, I.tok _, ⟨_, rfl⟩, q⟩
/-- the arguments of a call, those by keywords behind the others -/
abbrev tCat (t tk : TA) : TA := fun σ H Q => t σ H fun vs H1 => tk σ H1 fun zs H2 => Q (vs ++ zs) H2
/-- all arguments by keywords, in the parameters' order -/
theorem pe_callKW0 {CX : CXT} {k : Nat} {f : Addr} {fd : FuncData} {ps ks : List Str} {sp : Sp} {E : XK} {x : Str} {p pos : Pos} {kws : List Keyword} {tk : TA}
    (F : FnOk X.prog X.w X.K X.mg X.base CX k f fd ps sp) (hr : Room k X.A) (hg : Gl X x) (hm : X.mg x = some (.ref f)) (hk : PySem.W.keepIn X.K (.ref f) = true) (hb : KBn X.K fd ps 0 ks (fun us ws => us ++ ws) (fun vs zs => vs ++ zs)) (hx : Passes CX X E)
    (hkw : PK X kws tk) (hall : (backToKw pos (keywordEach kws X.env)).all (·.1.isSome) = true := by rfl) (hks : (backToKw pos (keywordEach kws X.env)).filterMap (·.1) = ks := by rfl) (hlen : ps.length = ks.length := by rfl)
    (hdb : (x == ("__debug__" : Str)) = false := by decide) (hpl : ((backTo pos (starEach [] X.env)).any (·.1) || (backToKw pos (keywordEach kws X.env)).any (·.1.isNone)) = false := by rfl) :
    PE X (.Call (.Name x p) [] kws pos) (tCall sp [] E tk) := by
  refine ⟨fun pins s σ H Q I h => ?_⟩
  refine wpAny_Call_Name_kw (ld_glob I hg hm ?_ hdb)
  refine PySem.W.callWith_KW0 (h₀ := X.base) I.ok.mod.kin hk hall ?_ hpl
  refine thn (hkw.run pos pins s σ H _ I h) fun ws s2 ⟨zs, H2, I2, rz, q2⟩ => ⟨I2.kIn, ?_⟩
  rw [hks]
  have q3 : sp zs H2 Q E := by
    have e : zs ++ [] = zs := List.append_nil zs
    rw [← e]
    exact q2
  exact run_fnN (us := []) (vs := []) F hr hb hx I2 .nil rz rfl ((F.len _ _ _ _ q3).trans hlen) q3
/-- some arguments, others by keywords, in the parameters' order -/
theorem pe_callKW {CX : CXT} {k : Nat} {f : Addr} {fd : FuncData} {ps ks : List Str} {sp : Sp} {E : XK} {x : Str} {p pos : Pos} {e : Expr} {es : List Expr} {kws : List Keyword} {t tk : TA} {n : Nat}
    (F : FnOk X.prog X.w X.K X.mg X.base CX k f fd ps sp) (hr : Room k X.A) (hg : Gl X x) (hm : X.mg x = some (.ref f)) (hk : PySem.W.keepIn X.K (.ref f) = true) (hb : KBn X.K fd ps n ks (fun us ws => us ++ ws) (fun vs zs => vs ++ zs)) (hx : Passes CX X E)
    (ha : PA X (e :: es) t) (hkw : PK X kws tk) (hn : ∀ σ H Q, t σ H Q → t σ H fun vs H1 => vs.length = n ∧ Q vs H1) (hall : (backToKw pos (keywordEach kws X.env)).all (·.1.isSome) = true := by rfl) (hks : (backToKw pos (keywordEach kws X.env)).filterMap (·.1) = ks := by rfl) (hlen : ps.length = n + ks.length := by rfl)
    (hdb : (x == ("__debug__" : Str)) = false := by decide) (he : starEach (e :: es) X.env = (false, eval e X.env) :: starEach es X.env := by rfl)
    (hpl : ((backTo pos (starEach (e :: es) X.env)).any (·.1) || (backToKw pos (keywordEach kws X.env)).any (·.1.isNone)) = false := by rfl) :
    PE X (.Call (.Name x p) (e :: es) kws pos) (tCall sp [] E (tCat t tk)) := by
  refine ⟨fun pins s σ H Q I h => ?_⟩
  refine wpAny_Call_Name_kw (ld_glob I hg hm ?_ hdb)
  refine PySem.W.callWith_KW (h₀ := X.base) I.ok.mod.kin hk hall (thn (ha.run pos pins s σ H _ I (hn _ _ _ h)) fun us s1 ⟨vs, H1, I1, r, l1, q⟩ => ?_) hpl he
  refine thn (hkw.run pos pins s1 σ H1 _ I1 q) fun ws s2 ⟨zs, H2, I2, rz, q2⟩ => ⟨I2.kIn, ?_⟩
  rw [hks]
  have q3 : sp (vs ++ zs) H2 Q E := by
    have e : (vs ++ zs) ++ [] = vs ++ zs := List.append_nil _
    rw [← e]
    exact q2
  have l2 := F.len _ _ _ _ q3
  rw [List.length_append] at l2
  exact run_fnN F hr hb hx I2 r rz l1 (by omega) q3
end
section
variable {K : PySem.W.Frag} {B0 F0 H : Hp} {cs ts : List Cell} {us σ : List (Option V)} {c : Cell} {te ta tb : TE} {D : Ends} {d : PyData} {R : Cell → Prop}
def cTL (K : PySem.W.Frag) (ds : List PyData) : Cell := ⟨fun v B _ fp => fp = [] ∧ ∃ a vs, v = some (.ref a) ∧ B a = some (.lst vs) ∧ DpAll K B vs ds,
  fun e ⟨h, a, vs, ev, hb, r⟩ => ⟨h, a, vs, ev, e _ _ hb, dpAll_same e r⟩, fun _ h => h, fun h a m => by rw [h.1] at m; cases m⟩
theorem cTL_pure {ds : List PyData} : (cTL K ds).Pure := fun _ _ _ _ h => h.1
theorem cTL_d {ds : List PyData} {v : Option V} {B F : Hp} {fp : List Addr} (h : (cTL K ds).ok v B F fp) : (cD K (.list ds)).ok v B F fp := by
  obtain ⟨h1, a, vs, ev, hb, r⟩ := h
  exact ⟨h1, _, ev, .lst (SqL.of hb) r⟩
/-- tells that there is a value -/
def Cell.Has (c : Cell) : Prop := ∀ v B F fp, c.ok v B F fp → ∃ x, v = some x
theorem cTL_has {ds : List PyData} : (cTL K ds).Has := fun _ _ _ _ ⟨_, a, _, e, _⟩ => ⟨_, e⟩
theorem cD_has : (cD K d).Has := fun _ _ _ _ ⟨_, x, e, _⟩ => ⟨x, e⟩
theorem Sim.wk1 {c' : Cell} {v : Option V} (S : Sim B0 F0 (c :: cs) (v :: σ) H) (h : ∀ B F fp, c.ok v B F fp → c'.ok v B F fp) : Sim B0 F0 (c' :: cs) (v :: σ) H := by
  obtain ⟨B, F, fp, h1, h2, h3, ⟨f1, f2, ef, hc, hr⟩, h5, h6⟩ := S
  exact ⟨B, F, fp, h1, h2, h3, ⟨f1, f2, ef, h _ _ _ hc, hr⟩, h5, h6⟩
theorem Ev.wk {c c' : Cell} (h : Ev te cs (Is c)) (k : ∀ v B F fp, c.ok v B F fp → c'.ok v B F fp) : Ev te cs (Is c') := fun B0 F0 ts us σ H hl S Q q => h B0 F0 ts us σ H hl S Q fun c1 v H1 r S1 => by
  subst r
  exact q _ v H1 rfl (S1.wk1 fun B F fp => k _ B F fp)
theorem Ev.tl {ds : List PyData} (h : Ev te cs (Is (cTL K ds))) : Ev te cs (Is (cD K (.list ds))) := h.wk fun _ _ _ _ => cTL_d
theorem Sim.freezeT {x : Option V} {l : Addr} {ds : List PyData} (S : Sim B0 F0 (cOwn K l ds :: cs) (x :: σ) H) : Sim B0 F0 (cTL K ds :: cs) (x :: σ) H := by
  obtain ⟨B, F, fp, h1, h2, h3, ⟨f1, f2, ef, ⟨e1, ey, vs, q, r⟩, r2⟩, h5, h6⟩ := S
  subst e1
  subst ef
  subst h1
  have hB : B l = none := h2 l _ q
  have nl : l ∉ f2 := (List.nodup_cons.mp h5).1
  let F' : Hp := fun a => if a = l then none else F a
  have eF : ∀ a, a ≠ l → F' a = F a := fun a h => if_neg h
  have eL : F' l = none := if_pos rfl
  refine ⟨upd B l (.lst vs), F', f2, ?_, fun a o e => ?_, h3.trans (same_upd hB), ⟨[], f2, rfl, ⟨rfl, l, vs, ey, upd_same, dpAll_same (same_upd hB) r⟩, ?_⟩, (List.nodup_cons.mp h5).2, fun a o e => ?_⟩
  · funext a
    by_cases e : a = l
    · subst e
      rw [pl_F q, pl_B eL, upd_same]
    · unfold pl
      rw [eF a e, upd_ne e]
  · have na : a ≠ l := fun z => by
      rw [z, eL] at e
      cases e
    rw [upd_ne na]
    rw [eF a na] at e
    exact h2 a o e
  · exact (r2.mono (same_upd hB)).loc fun a m => eF a fun z => nl (z ▸ m)
  · obtain ⟨q1, q2⟩ := h6 a o e
    have na : a ≠ l := fun z => by
      subst z
      exact q2 (by simp)
    exact ⟨(eF a na).trans q1, fun m => q2 (List.mem_append_right _ m)⟩
theorem Ev.freezeT {ds : List PyData} (h : Ev te cs (isO K ds)) : Ev te cs (Is (cTL K ds)) := fun B0 F0 ts us σ H hl S Q q => h B0 F0 ts us σ H hl S Q fun c v H' r S' => by
  obtain ⟨l, rfl⟩ := r
  exact q _ v H' rfl S'.freezeT
theorem ev_varC {i : Nat} (hi : cs[i]? = some c) (hp : c.Pure) (hh : c.Has) : Ev (tVar i) cs (Is c) := fun B0 F0 ts us σ H hl S Q q => by
  have hi' : (ts ++ cs)[ts.length + i]? = some c := by rw [at_ts rfl]; exact hi
  obtain ⟨w, ew, S'⟩ := S.dup hp hi'
  rw [at_ts hl.symm] at ew
  obtain ⟨B, F, fp, h1, h2, h3, ⟨f1, f2, ef, hc, r2⟩, h5, h6⟩ := id S'
  obtain ⟨x, ex⟩ := hh _ _ _ _ hc
  subst ex
  exact ⟨x, ew, q _ x H rfl S'⟩
theorem ev_varTL {i : Nat} {ds : List PyData} (hi : cs[i]? = some (cTL K ds)) : Ev (tVar i) cs (Is (cTL K ds)) := ev_varC hi cTL_pure cTL_has
theorem ev_rdTL {i : Nat} {ds : List PyData} (hi : cs[i]? = some (cTL K ds)) : Ev (tVar i) cs (Rdb K cs (.list ds)) := (ev_varTL hi).tl.rd
/-- list + list, both of the base -/
theorem ev_catL {xs ys : List PyData} (ha : Ev ta cs (Is (cTL K xs))) (hb : Ev tb cs (Is (cTL K ys))) (hz : xs.length + ys.length ≤ 100000) : Ev (tOp rCat ta tb) cs (Is (cTL K (xs ++ ys))) :=
  Ev.freezeT (ev_op2 ha hb fun c1 c2 r1 r2 B0 F0 ts us σ H x y hl S Q q => by
    subst r1 r2
    obtain ⟨B, F, fp, h1, h2, h3, ⟨f1, _, ef, ⟨e1, m, vs, ey, q1, q2⟩, ⟨g1, g2, eg, ⟨e2, l, ws, ex, q3, q4⟩, r⟩⟩, h5, h6⟩ := S
    cases ex
    cases ey
    subst h1
    subst e1 e2
    rw [List.nil_append] at eg
    subst eg
    rw [List.nil_append] at ef
    subst ef
    have sm : Same B (pl B F) := pl_same h2
    have O : Opn K B B0 F0 (ts ++ cs) (us ++ σ) (pl B F) := .mk' h2 h3 r h5 h6
    exact ⟨l, m, ws, vs, rfl, rfl, sm _ _ q3, sm _ _ q1, by rw [dpAll_len q2, dpAll_len q4]; exact sz_of hz, fun p hp => q _ _ _ ⟨p, rfl⟩ (O.own p _ _ hp (dpAll_cat q4 q2))⟩)
def cTup (as : List Cell) : Cell := ⟨fun v B F fp => fp = [] ∧ ∃ p xs, v = some (.ref p) ∧ B p = some (.tup xs) ∧ Holds B F as (xs.map some) [],
  fun e ⟨h, p, xs, ev, hb, r⟩ => ⟨h, p, xs, ev, e _ _ hb, r.mono e⟩, fun k ⟨h, p, xs, ev, hb, r⟩ => ⟨h, p, xs, ev, hb, r.loc fun a m => by cases m⟩, fun h a m => by rw [h.1] at m; cases m⟩
theorem cTup_pure {as : List Cell} : (cTup as).Pure := fun _ _ _ _ h => h.1
theorem cTup_has {as : List Cell} : (cTup as).Has := fun _ _ _ _ ⟨_, p, _, e, _⟩ => ⟨_, e⟩
theorem holds_pure {B F : Hp} : ∀ {as : List Cell} {vs : List (Option V)} {fp : List Addr}, (∀ c ∈ as, c.Pure) → Holds B F as vs fp → fp = []
  | [], [], _, _, h => h
  | c :: as, v :: vs, _, hp, ⟨f1, f2, ef, hc, hr⟩ => by
    have e1 := hp c (List.mem_cons_self ..) _ _ _ _ hc
    have e2 := holds_pure (fun d hd => hp d (List.mem_cons_of_mem _ hd)) hr
    rw [ef, e1, e2]
    rfl
  | [], _ :: _, _, _, h => h.elim
  | _ :: _, [], _, _, h => h.elim
theorem ev_tupC {ta : TA} {P : List Cell → Prop} (h : EvA ta cs P) (hp : ∀ as, P as → as.length ≤ 100000 ∧ ∀ c ∈ as, c.Pure) : Ev (tTup ta) cs (fun c => ∃ as, c = cTup as ∧ P as) := fun B0 F0 ts us σ H hl S Q q =>
  h B0 F0 ts us σ H hl S _ fun as vs H1 r hv S1 => by
    obtain ⟨hz, hpu⟩ := hp as r
    refine ⟨sz_of (by omega), fun p np => q _ _ _ ⟨as, rfl, r⟩ ?_⟩
    obtain ⟨B, F, fp, h1, h2, h3, h4, h5, h6⟩ := S1
    subst h1
    obtain ⟨pF, pB⟩ := pl_none np
    obtain ⟨f1, f2, ef, r1, r2⟩ := Holds.split (by rw [List.length_map, hv]) h4
    have e1 := holds_pure hpu r1
    subst e1
    rw [List.nil_append] at ef
    subst ef
    exact ⟨upd B p (.tup vs), F, fp, pl_updB pF, dj_updB h2 pF, h3.trans (same_upd pB), ⟨[], fp, rfl, ⟨rfl, p, vs, rfl, upd_same, r1.mono (same_upd pB)⟩, r2.mono (same_upd pB)⟩, h5, h6⟩
def TgsC (g : TGs) (js : List Nat) (as : List Cell) (cs cs2 : List Cell) : Prop := ∀ (B0 F0 : Hp) (ts : List Cell) (us σ : List (Option V)) (H : Hp) (vs : List V), us.length = ts.length → vs.length = as.length →
  Sim B0 F0 (as ++ (ts ++ cs)) (vs.map some ++ (us ++ σ)) H →
  ∀ Q : L2.St → Hp → Prop, (∀ σ2 H', σ2.length = σ.length → (∀ k, k ∉ js → σ2[k]? = σ[k]?) → Sim B0 F0 (ts ++ cs2) (us ++ σ2) H' → Q σ2 H') → g vs σ H Q
theorem tgC_nil : TgsC gNil [] [] cs cs := fun B0 F0 ts us σ H vs hl hv S Q q => by
  have e : vs = [] := List.length_eq_zero_iff.mp hv
  subst e
  exact ⟨rfl, q σ H rfl (fun _ _ => rfl) S⟩
theorem tgC_cons {g : TG} {gs : TGs} {js ks : List Nat} {as : List Cell} {cs1 cs2 : List Cell} (h1 : TgOk g js c cs cs1) (h2 : TgsC gs ks as cs1 cs2) : TgsC (gCons g gs) (js ++ ks) (c :: as) cs cs2 := fun B0 F0 ts us σ H vs hl hv S Q q => by
  cases vs with
  | nil => cases hv
  | cons v vs =>
    have hv' : vs.length = as.length := Nat.succ.inj hv
    refine ⟨v, vs, rfl, ?_⟩
    refine h1 B0 F0 (as ++ ts) (vs.map some ++ us) σ H v (by rw [List.length_append, List.length_append, List.length_map, hl, hv']) (by rw [List.append_assoc, List.append_assoc]; exact S) _ fun σ1 H1 l1 n1 S1 => ?_
    rw [List.append_assoc, List.append_assoc] at S1
    refine h2 B0 F0 ts us σ1 H1 vs hl hv' S1 Q fun σ2 H2 l2 n2 S2 => q σ2 H2 (l2.trans l1) (fun k hk => ?_) S2
    rw [List.mem_append] at hk
    exact (n2 k fun m => hk (.inr m)).trans (n1 k fun m => hk (.inl m))
theorem tg_tupC {n : Nat} {gs : TGs} {js : List Nat} {as : List Cell} {cs2 : List Cell} (hn : as.length = n) (h : TgsC gs js as cs cs2) : TgOk (gTup K n gs) js (cTup as) cs cs2 := fun B0 F0 ts us σ H x hl S Q q => by
  obtain ⟨B, F, fp, h1, h2, h3, ⟨f1, f2, ef, ⟨e1, p, xs, ex, hb, ha⟩, r2⟩, h5, h6⟩ := S
  cases ex
  subst e1
  rw [List.nil_append] at ef
  subst ef
  have lx : xs.length = as.length := by
    have := ha.len
    rwa [List.length_map] at this
  refine ⟨p, xs, rfl, ?_, by rw [lx]; exact hn, ?_⟩
  · rw [h1]
    exact SqT.of (pl_same h2 _ _ hb)
  · exact h B0 F0 ts us σ H xs hl lx ⟨B, F, fp, h1, h2, h3, ha.app r2, h5, h6⟩ Q q
theorem tgC2 {a b : Nat} {c1 c2 : Cell} : TgOk (gTup K 2 (gCons (gName a) (gCons (gName b) gNil))) [a, b] (cTup [c1, c2]) cs ((cs.set a c1).set b c2) := tg_tupC rfl (tgC_cons tg_name (tgC_cons tg_name tgC_nil))
theorem tgC3 {a b e : Nat} {c1 c2 c3 : Cell} : TgOk (gTup K 3 (gCons (gName a) (gCons (gName b) (gCons (gName e) gNil)))) [a, b, e] (cTup [c1, c2, c3]) cs (((cs.set a c1).set b c2).set e c3) := tg_tupC rfl (tgC_cons tg_name (tgC_cons tg_name (tgC_cons tg_name tgC_nil)))
theorem go_asgN {g : TG} (h : Ev te cs R) (k : ∀ c, R c → ∃ js cs2, TgOk g js c cs cs2 ∧ Go B0 F0 cs2 D.nx) : Go B0 F0 cs (tAsg te g D) := fun σ H S => h B0 F0 [] [] σ H rfl S _ fun c v H1 r S1 => by
  obtain ⟨js, cs2, hg, kk⟩ := k c r
  exact hg B0 F0 [] [] σ H1 v rfl S1 _ fun σ2 H2 _ _ S2 => kk σ2 H2 S2
theorem gs_asgN {g : TG} {u : TS} (h : Ev te cs R) (k : ∀ c, R c → ∃ js cs2, TgOk g js c cs cs2 ∧ Go B0 F0 cs2 (u D)) : Go B0 F0 cs (tSeq (tAsg te g) u D) := go_seq (go_asgN h k)
/-- a cell's list of one's own becomes one of the base -/
theorem go_freezeT {i : Nat} {l : Addr} {ds : List PyData} {T : L2.St → Hp → Prop} (hi : cs[i]? = some (cOwn K l ds)) (k : Go B0 F0 (cs.set i (cTL K ds)) T) : Go B0 F0 cs T := fun σ H S => by
  obtain ⟨B, F, fp, h1, h2, h3, h4, h5, h6⟩ := S
  have hil := (List.getElem?_eq_some_iff.mp hi).1
  have hl := h4.len
  have e0 : cs = cs.take i ++ cOwn K l ds :: cs.drop (i + 1) := by
    have := List.getElem?_eq_some_iff.mp hi
    obtain ⟨h7, h8⟩ := this
    rw [← h8, ← List.drop_eq_getElem_cons h7, List.take_append_drop]
  have e1 : σ = σ.take i ++ σ[i]'(by omega) :: σ.drop (i + 1) := by
    rw [← List.drop_eq_getElem_cons (by omega), List.take_append_drop]
  have S : Sim B0 F0 (cs.take i ++ cOwn K l ds :: cs.drop (i + 1)) (σ.take i ++ σ[i]'(by omega) :: σ.drop (i + 1)) H := by
    rw [← e0, ← e1]
    exact ⟨B, F, fp, h1, h2, h3, h4, h5, h6⟩
  have lt : (σ.take i).length = (cs.take i).length := by rw [List.length_take, List.length_take, hl]
  have S2 := (Sim.front lt S).freezeT
  refine k σ H ?_
  have S3 : Sim B0 F0 (cs.take i ++ (cTL K ds :: cs.drop (i + 1))) (σ.take i ++ (σ[i]'(by omega) :: σ.drop (i + 1))) H := by
    obtain ⟨B, F, fp, h1, h2, h3, ⟨f1, f2, ef, hc, hr⟩, h5, h6⟩ := S2
    obtain ⟨g1, g2, eg, r1, r2⟩ := Holds.split lt hr
    subst eg ef
    have pm : (g1 ++ (f1 ++ g2)).Perm (f1 ++ (g1 ++ g2)) := by
      rw [← List.append_assoc, ← List.append_assoc]
      exact List.Perm.append_right _ List.perm_append_comm
    exact ⟨B, F, g1 ++ (f1 ++ g2), h1, h2, h3, r1.app (.cons hc r2), pm.nodup_iff.mpr h5, fun a o e => ⟨(h6 a o e).1, fun m => (h6 a o e).2 (pm.mem_iff.mp m)⟩⟩
  rw [← e1] at S3
  have e2 : cs.set i (cTL K ds) = cs.take i ++ (cTL K ds :: cs.drop (i + 1)) := List.set_eq_take_append_cons_drop .. |>.trans (if_pos hil)
  rw [e2]
  exact S3
/-- max([a] + [abs(entry) for entry in ..]) -/
theorem ev_mxA1 {l : List Int} {wi : TI} {n j : Nat} {Rc : Nat → Cell → Prop} (hi : EvI wi cs n Rc) (hn : n = l.length) (hR : ∀ i c, Rc i c → ∃ x, l[i]? = some x ∧ c = cI K x) (hv : cs[j]? = some cNo) (hz : l.length ≤ 99999) {r : List V → Hp → VK → Prop}
    (he : ∀ x : Int, Ev te (cs.set j (cI K x)) (Is (cI K (x.natAbs : Int)))) : Ev (tCB (rMax K) (tCons (tOp rCat (tLst (tCons (tC (.int 1)) tNil)) (tLc wi (gName j) tYes te [j])) tNil)) cs (Is (cI K (max 1 (mxA l)))) := by
  refine ev_maxL (ns := 1 :: l.map fun z => (z.natAbs : Int)) (Ev.rd (Ev.freeze (Ev.own (ev_cat (ev_lst (ds := [.int 1]) (ea_cons ev_int ea_nil) (by decide)) (ev_lc1A (K := K) l PyData.int (fun z => .int (z.natAbs : Int)) hi hn hR hv hz fun x _ => he x) ?_) ?_))) ?_ ?_
  · rw [List.length_map]
    simp
    omega
  · rw [List.map_cons, List.map_map]
    rfl
  · by_cases q : mxA l ≤ 1
    · rw [Int.max_eq_left q]
      exact List.mem_cons_self ..
    · rw [Int.max_eq_right (by omega)]
      rcases List.mem_cons.mp (mxA_mem l) with e | e
      · omega
      · exact List.mem_cons_of_mem _ e
  · intro y hy
    rcases List.mem_cons.mp hy with e | e
    · omega
    · have := mxA_le l y (List.mem_cons_of_mem _ e)
      omega
/-- str(n), n of less than 4300 digits -/
theorem ev_strB {n : Int} (h : Ev te cs (Is (cI K n))) (hz : n.natAbs < 10 ^ 4300) : Ev (tCB (fun xs H Q => ∃ i, xs = [.int i] ∧ i.natAbs < 10 ^ 4300 ∧ Q (.str (toString i)) H) (tCons te tNil)) cs (Is (cS K (PySem.Str.ofString (toString n)))) :=
  ev_cb1 h fun c r B0 F0 ts us σ H x hl S Q q => by
    subst r
    have e := dp_int S.dp
    subst e
    exact ⟨n, rfl, hz, q _ _ _ rfl (S.pop.pushD fun _ => .str _)⟩
theorem ev_mulS {x : Str} {n : Int} (ha : Ev ta cs (Is (cS K x))) (hb : Ev tb cs (Is (cI K n))) (hz : x.length ≤ 1000) (h0 : 0 ≤ n) (h1 : n ≤ 1000) : Ev (tOp (fun x y H Q => ∃ i n, x = .str i ∧ y = .int n ∧ i.length ≤ 1000 ∧ 0 ≤ n ∧ n ≤ 1000 ∧ Q (.str (Txt.mul i n)) H) ta tb) cs (Is (cS K (Txt.mul x n))) :=
  ev_op2D ha hb fun H x' y' r1 r2 Q q => by
    rw [dp_str r1, dp_int r2]
    exact ⟨_, _, rfl, rfl, hz, h0, h1, q _ fun _ => .str _⟩
end
end Z
namespace M
/-- the value of a row -/
def ev : List Int → Int → Int
  | [], _ => 0
  | c :: l, x => c + x * ev l x
def cf (l : List Int) (k : Nat) : Int := l.getD k 0
def trimI : List Int → List Int
  | [] => []
  | c :: l => if trimI l = [] ∧ c = 0 then [] else c :: trimI l
/-- trimmed -/
def Tr (l : List Int) : Prop := trimI l = l
theorem ev_trim (x : Int) : ∀ l : List Int, ev (trimI l) x = ev l x
  | [] => rfl
  | c :: l => by
    have ih := ev_trim x l
    unfold trimI
    by_cases h : trimI l = [] ∧ c = 0
    · rw [if_pos h]
      rw [h.1] at ih
      show 0 = c + x * ev l x
      rw [← ih, h.2]
      simp [ev]
    · rw [if_neg h]
      show c + x * ev (trimI l) x = c + x * ev l x
      rw [ih]
theorem cf_nil (k : Nat) : cf [] k = 0 := by simp [cf]
theorem cf_zero (c : Int) (l : List Int) : cf (c :: l) 0 = c := rfl
theorem cf_succ (c : Int) (l : List Int) (k : Nat) : cf (c :: l) (k + 1) = cf l k := rfl
theorem cf_trim : ∀ (l : List Int) (k : Nat), cf (trimI l) k = cf l k
  | [], _ => rfl
  | c :: l, k => by
    have ih := cf_trim l
    unfold trimI
    by_cases h : trimI l = [] ∧ c = 0
    · rw [if_pos h]
      rw [h.1] at ih
      cases k with
      | zero => rw [cf_nil, cf_zero, h.2]
      | succ k => rw [cf_nil, cf_succ, ← ih k, cf_nil]
    · rw [if_neg h]
      cases k with
      | zero => rfl
      | succ k => exact ih k
theorem trim_nil_iff : ∀ l : List Int, trimI l = [] ↔ ∀ k, cf l k = 0
  | [] => ⟨fun _ k => cf_nil k, fun _ => rfl⟩
  | c :: l => by
    unfold trimI
    constructor
    · intro h k
      by_cases q : trimI l = [] ∧ c = 0
      · cases k with
        | zero => exact q.2
        | succ k => exact (trim_nil_iff l).mp q.1 k
      · rw [if_neg q] at h
        cases h
    · intro h
      rw [if_pos ⟨(trim_nil_iff l).mpr fun k => h (k + 1), h 0⟩]
theorem trim_ext : ∀ {a b : List Int}, (∀ k, cf a k = cf b k) → trimI a = trimI b
  | [], b, h => by
    rw [(trim_nil_iff b).mpr fun k => by rw [← h k, cf_nil]]
    rfl
  | c :: a, [], h => (trim_nil_iff (c :: a)).mpr fun k => by rw [h k, cf_nil]
  | c :: a, d :: b, h => by
    have e : c = d := h 0
    have ih := trim_ext (a := a) (b := b) fun k => h (k + 1)
    unfold trimI
    rw [ih, e]
theorem trim_trim (l : List Int) : trimI (trimI l) = trimI l := trim_ext (cf_trim l)
theorem tr_trim (l : List Int) : Tr (trimI l) := trim_trim l
theorem tr_nil : Tr [] := rfl
theorem trim_len : ∀ l : List Int, (trimI l).length ≤ l.length
  | [] => Nat.le_refl _
  | c :: l => by
    unfold trimI
    by_cases h : trimI l = [] ∧ c = 0
    · rw [if_pos h]
      exact Nat.zero_le _
    · rw [if_neg h]
      exact Nat.succ_le_succ (trim_len l)
theorem trim_mem : ∀ {l : List Int} {x : Int}, x ∈ trimI l → x ∈ l
  | [], _, h => h
  | c :: l, x, h => by
    unfold trimI at h
    by_cases q : trimI l = [] ∧ c = 0
    · rw [if_pos q] at h
      cases h
    · rw [if_neg q] at h
      rcases List.mem_cons.mp h with e | e
      · exact List.mem_cons.mpr (.inl e)
      · exact List.mem_cons.mpr (.inr (trim_mem e))
theorem tr_tail {c : Int} {l : List Int} (h : Tr (c :: l)) : Tr l := by
  unfold Tr trimI at h
  by_cases q : trimI l = [] ∧ c = 0
  · rw [if_pos q] at h
    cases h
  · rw [if_neg q] at h
    exact (List.cons.inj h).2
theorem tr_ne {c : Int} {l : List Int} (h : Tr (c :: l)) (hl : l = []) : c ≠ 0 := by
  intro e
  subst hl e
  cases h
/-- the last one isn't nought -/
theorem tr_last : ∀ {l : List Int} {e : Nat}, (e = 0 ∧ l = [] ∨ e < l.length + 1 ∧ l.length = e ∧ cf l (e - 1) ≠ 0) → Tr l
  | [], _, _ => rfl
  | c :: l, e, h => by
    rcases h with ⟨_, h⟩ | ⟨h1, h2, h3⟩
    · cases h
    · have h2' : e = l.length + 1 := h2.symm
      subst h2'
      show trimI (c :: l) = c :: l
      unfold trimI
      cases l with
      | nil =>
        have hc : c ≠ 0 := h3
        rw [if_neg fun z => hc z.2]
        rfl
      | cons d l =>
        have ih : Tr (d :: l) := tr_last (e := l.length + 1) (.inr ⟨by simp, rfl, by
          have e : cf (c :: d :: l) (l.length + 1 + 1 - 1) = cf (d :: l) (l.length + 1 - 1) := by
            show cf (c :: d :: l) (l.length + 1) = cf (d :: l) l.length
            rfl
          rw [← e]
          exact h3⟩)
        rw [ih, if_neg fun z => nomatch z.1]
theorem cf_take (l : List Int) (e k : Nat) : cf (l.take e) k = if k < e then cf l k else 0 := by
  unfold cf
  rw [List.getD_eq_getElem?_getD, List.getD_eq_getElem?_getD, List.getElem?_take]
  split <;> rfl
/-- what the loop finds -/
theorem take_trim {l : List Int} {e : Nat} (he : e ≤ l.length) (h0 : ∀ k, e ≤ k → cf l k = 0) (h1 : e = 0 ∨ cf l (e - 1) ≠ 0) : l.take e = trimI l := by
  have a : trimI (l.take e) = trimI l := trim_ext fun k => by
    rw [cf_take]
    split
    · rfl
    · exact (h0 k (by omega)).symm
  have b : Tr (l.take e) := by
    rcases h1 with h1 | h1
    · subst h1
      rfl
    · by_cases z : e = 0
      · subst z
        rfl
      · refine tr_last (e := e) (.inr ⟨by rw [List.length_take]; omega, by rw [List.length_take]; omega, ?_⟩)
        rw [cf_take, if_pos (by omega)]
        exact h1
  rw [← a]
  exact b.symm
theorem cf_of_lt {l : List Int} {k : Nat} (h : k < l.length) : l[k]? = some (cf l k) := by
  unfold cf
  rw [List.getD_eq_getElem?_getD, List.getElem?_eq_getElem h]
  rfl
theorem cf_ge {l : List Int} {k : Nat} (h : l.length ≤ k) : cf l k = 0 := by
  unfold cf
  rw [List.getD_eq_getElem?_getD, List.getElem?_eq_none h]
  rfl
theorem zero_of_ev : ∀ {l : List Int}, (∀ x : Int, x ≠ 0 → ev l x = 0) → ∀ k, cf l k = 0
  | [], _, k => cf_nil k
  | c :: l, h, k => by
    have hc : c = 0 := by
      have q := h ((c.natAbs : Int) + 1) (by omega)
      have e : c = ((c.natAbs : Int) + 1) * (- ev l ((c.natAbs : Int) + 1)) := by
        have : c + ((c.natAbs : Int) + 1) * ev l ((c.natAbs : Int) + 1) = 0 := q
        rw [Int.mul_neg]
        omega
      have d : ((c.natAbs : Int) + 1) ∣ c := ⟨_, e⟩
      have n : (c.natAbs + 1) ∣ c.natAbs := by
        have := Int.natAbs_dvd_natAbs.mpr d
        have e1 : ((c.natAbs : Int) + 1).natAbs = c.natAbs + 1 := by omega
        rw [e1] at this
        exact this
      by_cases z : c.natAbs = 0
      · omega
      · have := Nat.le_of_dvd (by omega) n
        omega
    cases k with
    | zero => exact hc
    | succ k =>
      refine zero_of_ev (l := l) (fun x hx => ?_) k
      have q : c + x * ev l x = 0 := h x hx
      rw [hc, Int.zero_add] at q
      exact (Int.mul_eq_zero.mp q).resolve_left hx
def addRaw (n : Int) : List Int → List Int → List Int
  | a, [] => a
  | [], y :: b => n * y :: addRaw n [] b
  | x :: a, y :: b => (x + n * y) :: addRaw n a b
theorem ev_addRaw (n x : Int) : ∀ a b : List Int, ev (addRaw n a b) x = ev a x + n * ev b x
  | a, [] => by cases a <;> simp [addRaw, ev]
  | [], y :: b => by
    show n * y + x * ev (addRaw n [] b) x = ev [] x + n * (y + x * ev b x)
    rw [ev_addRaw n x [] b]
    show n * y + x * (0 + n * ev b x) = 0 + n * (y + x * ev b x)
    rw [Int.zero_add, Int.zero_add, Int.mul_add, Int.mul_left_comm]
  | c :: a, y :: b => by
    show (c + n * y) + x * ev (addRaw n a b) x = (c + x * ev a x) + n * (y + x * ev b x)
    rw [ev_addRaw n x a b, Int.mul_add, Int.mul_add, Int.mul_left_comm x n]
    omega
theorem len_addRaw (n : Int) : ∀ a b : List Int, (addRaw n a b).length = max a.length b.length
  | a, [] => by cases a <;> simp [addRaw]
  | [], y :: b => by
    show (addRaw n [] b).length + 1 = _
    rw [len_addRaw n [] b]
    simp
  | c :: a, y :: b => by
    show (addRaw n a b).length + 1 = _
    rw [len_addRaw n a b]
    simp
theorem cf_addRaw (n : Int) : ∀ (a b : List Int) (k : Nat), cf (addRaw n a b) k = cf a k + n * cf b k
  | a, [], k => by cases a <;> simp [addRaw, cf]
  | [], y :: b, 0 => by simp [addRaw, cf]
  | [], y :: b, k + 1 => by
    show cf (addRaw n [] b) k = _
    rw [cf_addRaw n [] b k]
    simp [cf]
  | c :: a, y :: b, 0 => by simp [addRaw, cf]
  | c :: a, y :: b, k + 1 => by
    show cf (addRaw n a b) k = cf a k + n * cf b k
    exact cf_addRaw n a b k
def addI (a b : List Int) (n : Int) : List Int := trimI (addRaw n a b)
theorem ev_addI (a b : List Int) (n x : Int) : ev (addI a b n) x = ev a x + n * ev b x := by
  unfold addI
  rw [ev_trim, ev_addRaw]
/-- rows are alike if they tell the same -/
theorem trim_of_ev {a b : List Int} (h : ∀ x : Int, ev a x = ev b x) : trimI a = trimI b := trim_ext fun k => by
  have q := zero_of_ev (l := addRaw (-1) a b) (fun x _ => by rw [ev_addRaw, h x]; omega) k
  rw [cf_addRaw] at q
  omega
theorem tr_of_ev {a b : List Int} (ha : Tr a) (hb : Tr b) (h : ∀ x : Int, ev a x = ev b x) : a = b := by
  rw [← ha, ← hb]
  exact trim_of_ev h
def scale (a : Int) (b : List Int) : List Int := b.map (a * ·)
theorem ev_scale (a x : Int) : ∀ b : List Int, ev (scale a b) x = a * ev b x
  | [] => by simp [scale, ev]
  | c :: b => by
    show a * c + x * ev (scale a b) x = a * (c + x * ev b x)
    rw [ev_scale a x b, Int.mul_add, Int.mul_left_comm]
def mulRaw : List Int → List Int → List Int
  | [], _ => []
  | a :: as, b => addRaw 1 (scale a b) (0 :: mulRaw as b)
theorem ev_mulRaw (x : Int) : ∀ a b : List Int, ev (mulRaw a b) x = ev a x * ev b x
  | [], b => by simp [mulRaw, ev]
  | a :: as, b => by
    show ev (addRaw 1 (scale a b) (0 :: mulRaw as b)) x = (a + x * ev as x) * ev b x
    rw [ev_addRaw, ev_scale]
    show a * ev b x + 1 * (0 + x * ev (mulRaw as b) x) = _
    rw [ev_mulRaw x as b, Int.add_mul, Int.mul_assoc]
    simp
def mulI (a b : List Int) : List Int := trimI (mulRaw a b)
theorem ev_mulI (a b : List Int) (x : Int) : ev (mulI a b) x = ev a x * ev b x := by
  unfold mulI
  rw [ev_trim, ev_mulRaw]
theorem mulI_nil_left (b : List Int) : mulI [] b = [] := rfl
theorem mulI_of_ev {a b f : List Int} (h : ∀ x, ev f x = ev a x * ev b x) : trimI f = mulI a b := trim_of_ev fun x => by rw [h, ev_mulRaw]
theorem addI_of_ev {a b f : List Int} {n : Int} (h : ∀ x, ev f x = ev a x + n * ev b x) : trimI f = addI a b n := trim_of_ev fun x => by rw [h, ev_addRaw]
theorem tr_addI (a b : List Int) (n : Int) : Tr (addI a b n) := tr_trim _
theorem tr_mulI (a b : List Int) : Tr (mulI a b) := tr_trim _
theorem len_mulRaw : ∀ a b : List Int, (mulRaw a b).length ≤ a.length + b.length
  | [], b => Nat.zero_le _
  | a :: as, b => by
    show (addRaw 1 (scale a b) (0 :: mulRaw as b)).length ≤ _
    rw [len_addRaw]
    have := len_mulRaw as b
    simp [scale]
    omega
theorem cf_mulRaw_top : ∀ (a b : List Int) (k : Nat), a ≠ [] → b ≠ [] → a.length + b.length ≤ k + 1 → cf (mulRaw a b) k = 0
  | [], b, k, h, _, _ => absurd rfl h
  | [a], b, k, _, hb, h => by
    show cf (addRaw 1 (scale a b) [0]) k = 0
    rw [cf_addRaw, cf_ge (by simp [scale]; simp at h; omega)]
    cases k with
    | zero => simp [cf]
    | succ k => simp [cf]
  | a :: a2 :: as, b, k, _, hb, h => by
    show cf (addRaw 1 (scale a b) (0 :: mulRaw (a2 :: as) b)) k = 0
    have lb : 0 < b.length := List.length_pos_iff.mpr hb
    rw [cf_addRaw, cf_ge (l := scale a b) (by simp [scale]; simp at h; omega)]
    cases k with
    | zero => simp at h; omega
    | succ k =>
      rw [cf_succ, cf_mulRaw_top (a2 :: as) b k (by simp) hb (by simp at h ⊢; omega)]
      omega
theorem trim_len_le {l : List Int} {n : Nat} (h : ∀ k, n ≤ k → cf l k = 0) : (trimI l).length ≤ n := by
  have e : trimI l = trimI (l.take n) := trim_ext fun k => by
    rw [cf_take]
    split
    · rfl
    · exact h k (by omega)
  rw [e]
  exact Nat.le_trans (trim_len _) (by rw [List.length_take]; omega)
theorem len_mulI {a b : List Int} (ha : a ≠ []) (hb : b ≠ []) : (mulI a b).length ≤ a.length + b.length - 1 := by
  have la : 0 < a.length := List.length_pos_iff.mpr ha
  have lb : 0 < b.length := List.length_pos_iff.mpr hb
  exact trim_len_le fun k hk => cf_mulRaw_top a b k ha hb (by omega)
theorem len_addI (a b : List Int) (n : Int) : (addI a b n).length ≤ max a.length b.length := by
  unfold addI
  exact Nat.le_trans (trim_len _) (by rw [len_addRaw]; exact Nat.le_refl _)
def Bd (b : Nat) (l : List Int) : Prop := ∀ x ∈ l, x.natAbs < 2 ^ b
theorem Bd.mono {b c : Nat} {l : List Int} (h : Bd b l) (k : b ≤ c) : Bd c l := fun x hx => Nat.lt_of_lt_of_le (h x hx) (Nat.pow_le_pow_right (by omega) k)
theorem Bd.trim {b : Nat} {l : List Int} (h : Bd b l) : Bd b (trimI l) := fun x hx => h x (trim_mem hx)
theorem Bd.nil {b : Nat} : Bd b [] := fun x hx => by cases hx
theorem pow_dbl (b : Nat) : 2 ^ b + 2 ^ b = 2 ^ (b + 1) := by rw [Nat.pow_succ]; omega
theorem Bd.addRaw {n : Int} {b : Nat} : ∀ {a c : List Int}, Bd b a → (∀ y ∈ c, (n * y).natAbs < 2 ^ b) → Bd (b + 1) (addRaw n a c)
  | a, [], h, _ => by
    have e : M.addRaw n a [] = a := by cases a <;> rfl
    rw [e]
    exact h.mono (by omega)
  | [], y :: c, _, h2 => fun x hx => by
    rcases List.mem_cons.mp hx with e | e
    · rw [e]
      exact Nat.lt_of_lt_of_le (h2 y (List.mem_cons_self ..)) (Nat.pow_le_pow_right (by omega) (by omega))
    · exact Bd.addRaw (a := []) (c := c) Bd.nil (fun z hz => h2 z (List.mem_cons_of_mem _ hz)) x e
  | w :: a, y :: c, h1, h2 => fun x hx => by
    rcases List.mem_cons.mp hx with e | e
    · rw [e]
      have q1 := h1 w (List.mem_cons_self ..)
      have q2 := h2 y (List.mem_cons_self ..)
      have q3 := Int.natAbs_add_le w (n * y)
      have q4 := pow_dbl b
      omega
    · exact Bd.addRaw (a := a) (c := c) (fun z hz => h1 z (List.mem_cons_of_mem _ hz)) (fun z hz => h2 z (List.mem_cons_of_mem _ hz)) x e
theorem mul_lt {i j : Int} {a b : Nat} (ha : i.natAbs < 2 ^ a) (hb : j.natAbs < 2 ^ b) : (i * j).natAbs < 2 ^ (a + b) := by
  rw [Int.natAbs_mul, Nat.pow_add]
  exact Nat.mul_lt_mul'' ha hb
theorem Bd.addI {n : Int} {b c d : Nat} {a e : List Int} (h1 : Bd b a) (h2 : Bd c e) (hn : n.natAbs < 2 ^ d) : Bd (max b (d + c) + 1) (addI a e n) :=
  Bd.trim (Bd.addRaw (h1.mono (by omega)) fun y hy => Nat.lt_of_lt_of_le (mul_lt hn (h2 y hy)) (Nat.pow_le_pow_right (by omega) (by omega)))
theorem Bd.mulRaw {p q : Nat} : ∀ {a b : List Int}, Bd p a → Bd q b → Bd (p + q + a.length) (mulRaw a b)
  | [], b, _, _ => Bd.nil
  | x :: as, b, h1, h2 => by
    have ih := Bd.mulRaw (a := as) (b := b) (fun z hz => h1 z (List.mem_cons_of_mem _ hz)) h2
    show Bd (p + q + (as.length + 1)) (M.addRaw 1 (scale x b) (0 :: M.mulRaw as b))
    refine Bd.addRaw (b := p + q + as.length) (fun z hz => ?_) fun y hy => ?_
    · obtain ⟨w, hw, e⟩ := List.mem_map.mp hz
      rw [← e]
      exact Nat.lt_of_lt_of_le (mul_lt (h1 x (List.mem_cons_self ..)) (h2 w hw)) (Nat.pow_le_pow_right (by omega) (Nat.le_add_right (p + q) as.length))
    · rw [Int.one_mul]
      rcases List.mem_cons.mp hy with e | e
      · rw [e]
        exact Nat.pow_pos (by omega)
      · exact ih y e
theorem Bd.mulI {p q : Nat} {a b : List Int} (h1 : Bd p a) (h2 : Bd q b) : Bd (p + q + a.length) (mulI a b) := (Bd.mulRaw h1 h2).trim
theorem Bd.one {b : Nat} {c : Int} (h : c.natAbs < 2 ^ b) : Bd b [c] := fun x hx => by
  rw [List.mem_singleton.mp hx]
  exact h
def compI : List Int → List Int → List Int
  | [], _ => []
  | c :: l, o => addI (mulI (compI l o) o) [c] 1
theorem ev_compI (o : List Int) (x : Int) : ∀ l : List Int, ev (compI l o) x = ev l (ev o x)
  | [] => rfl
  | c :: l => by
    show ev (addI (mulI (compI l o) o) [c] 1) x = c + ev o x * ev l (ev o x)
    rw [ev_addI, ev_mulI, ev_compI o x l]
    show _ + 1 * (c + x * 0) = _
    rw [Int.mul_zero, Int.mul_comm (ev l (ev o x))]
    omega
theorem tr_compI (o : List Int) : ∀ l : List Int, Tr (compI l o)
  | [] => rfl
  | _ :: _ => tr_addI _ _ _
theorem len_compI {o : List Int} (ho : o ≠ []) : ∀ l : List Int, (compI l o).length ≤ (l.length - 1) * (o.length - 1) + 1
  | [] => Nat.zero_le _
  | [c] => by
    show (addI (mulI [] o) [c] 1).length ≤ _
    refine Nat.le_trans (len_addI _ _ _) ?_
    rw [mulI_nil_left]
    simp
  | c :: d :: l => by
    show (addI (mulI (compI (d :: l) o) o) [c] 1).length ≤ _
    have ih := len_compI ho (d :: l)
    have lo : 0 < o.length := List.length_pos_iff.mpr ho
    have q : (mulI (compI (d :: l) o) o).length ≤ (l.length + 1) * (o.length - 1) + 1 := by
      by_cases z : compI (d :: l) o = []
      · rw [z, mulI_nil_left]
        exact Nat.zero_le _
      · have z1 := len_mulI z ho
        have e : (l.length + 1) * (o.length - 1) = l.length * (o.length - 1) + (o.length - 1) := Nat.succ_mul _ _
        have e2 : (d :: l).length - 1 = l.length := rfl
        rw [e2] at ih
        omega
    refine Nat.le_trans (len_addI _ _ _) ?_
    show max _ 1 ≤ (l.length + 1) * (o.length - 1) + 1
    omega
theorem compI_nil : ∀ l : List Int, (compI l []).length ≤ 1
  | [] => Nat.zero_le _
  | c :: l => by
    show (addI (mulI (compI l []) []) [c] 1).length ≤ 1
    refine Nat.le_trans (len_addI _ _ _) ?_
    have : mulI (compI l []) [] = [] := (trim_nil_iff _).mpr fun k => by
      have := zero_of_ev (l := mulRaw (compI l []) []) (fun x _ => by rw [ev_mulRaw]; show _ * 0 = _; omega) k
      exact this
    rw [this]
    simp
end M
namespace M
theorem ext_cf : ∀ {a b : List Int}, a.length = b.length → (∀ k, cf a k = cf b k) → a = b
  | [], [], _, _ => rfl
  | c :: a, d :: b, h, k => by
    have e : c = d := k 0
    rw [e, ext_cf (by simpa using h) fun j => k (j + 1)]
  | [], _ :: _, h, _ => by cases h
  | _ :: _, [], h, _ => by cases h
theorem cf_set {l : List Int} {i k : Nat} {x : Int} (h : i < l.length) : cf (l.set i x) k = if k = i then x else cf l k := by
  unfold cf
  rw [List.getD_eq_getElem?_getD, List.getD_eq_getElem?_getD]
  by_cases e : k = i
  · subst e
    rw [List.getElem?_set_self h, if_pos rfl]
    rfl
  · rw [List.getElem?_set_ne (fun z => e z.symm), if_neg e]
theorem cf_app_zeros (a : List Int) (n k : Nat) : cf (a ++ List.replicate n 0) k = cf a k := by
  unfold cf
  rw [List.getD_eq_getElem?_getD, List.getD_eq_getElem?_getD]
  by_cases h : k < a.length
  · rw [List.getElem?_append_left h]
  · rw [List.getElem?_append_right (by omega), List.getElem?_eq_none (l := a) (by omega), List.getElem?_replicate]
    split <;> rfl
def padd (a b : List Int) : List Int := a ++ List.replicate (b.length - a.length) 0
theorem len_padd (a b : List Int) : (padd a b).length = max a.length b.length := by
  unfold padd
  simp
  omega
theorem add_get {n : Int} {p b : List Int} {i : Nat} (hi : i < b.length) (hp : b.length ≤ p.length) : (addRaw n p (b.take i))[i]? = some (cf p i) := by
  have hl : i < (addRaw n p (b.take i)).length := by
    rw [len_addRaw]
    omega
  rw [cf_of_lt hl, cf_addRaw, cf_take, if_neg (by omega)]
  congr 1
  omega
theorem add_step {n : Int} {p b : List Int} {i : Nat} (hi : i < b.length) (hp : b.length ≤ p.length) : (addRaw n p (b.take i)).set i (cf p i + n * cf b i) = addRaw n p (b.take (i + 1)) := by
  have l1 : (addRaw n p (b.take i)).length = p.length := by rw [len_addRaw, List.length_take]; omega
  have l2 : (addRaw n p (b.take (i + 1))).length = p.length := by rw [len_addRaw, List.length_take]; omega
  refine ext_cf (by rw [List.length_set, l1, l2]) fun k => ?_
  rw [cf_set (by omega), cf_addRaw, cf_addRaw, cf_take, cf_take]
  by_cases e : k = i
  · subst e
    rw [if_pos rfl, if_pos (by omega)]
  · rw [if_neg e]
    by_cases h : k < i
    · rw [if_pos h, if_pos (by omega)]
    · rw [if_neg h, if_neg (by omega)]
theorem add_done {n : Int} (a b : List Int) : trimI (addRaw n (padd a b) (b.take b.length)) = addI a b n := by
  rw [List.take_length]
  refine trim_ext fun k => ?_
  rw [cf_addRaw, cf_addRaw]
  unfold padd
  rw [cf_app_zeros]
theorem cf_scale (a : Int) : ∀ (b : List Int) (k : Nat), cf (scale a b) k = a * cf b k
  | [], k => by simp [scale, cf]
  | c :: b, 0 => rfl
  | c :: b, k + 1 => cf_scale a b k
theorem mul_step : ∀ (a b : List Int) (i k : Nat), cf (mulRaw (a.take (i + 1)) b) k = cf (mulRaw (a.take i) b) k + cf a i * (if k < i then 0 else cf b (k - i))
  | [], b, i, k => by simp [mulRaw, cf]
  | c :: a, b, 0, k => by
    show cf (addRaw 1 (scale c b) (0 :: mulRaw (a.take 0) b)) k = cf (mulRaw [] b) k + c * _
    rw [cf_addRaw, cf_scale, List.take_zero]
    have e : cf (0 :: mulRaw [] b) k = 0 := by
      cases k with
      | zero => rfl
      | succ k => exact cf_nil k
    rw [e]
    show c * cf b k + 1 * 0 = cf [] k + c * cf b (k - 0)
    rw [cf_nil, Nat.sub_zero]
    omega
  | c :: a, b, i + 1, k => by
    show cf (addRaw 1 (scale c b) (0 :: mulRaw (a.take (i + 1)) b)) k = cf (addRaw 1 (scale c b) (0 :: mulRaw (a.take i) b)) k + cf a i * _
    rw [cf_addRaw, cf_addRaw]
    cases k with
    | zero =>
      rw [cf_zero, cf_zero, if_pos (by omega)]
      omega
    | succ k =>
      rw [cf_succ, cf_succ, mul_step a b i k]
      have e : (if k + 1 < i + 1 then (0 : Int) else cf b (k + 1 - (i + 1))) = if k < i then 0 else cf b (k - i) := by
        by_cases h : k < i
        · rw [if_pos h, if_pos (by omega)]
        · rw [if_neg h, if_neg (by omega)]
          congr 1
          omega
      rw [e]
      omega
theorem mul_done {a b f : List Int} (ha : a ≠ []) (hb : b ≠ []) (hl : f.length = a.length + b.length - 1) (h : ∀ k, k < f.length → cf f k = cf (mulRaw (a.take a.length) b) k) : trimI f = mulI a b := by
  rw [List.take_length] at h
  refine trim_ext fun k => ?_
  by_cases hk : k < f.length
  · exact h k hk
  · rw [cf_ge (by omega), cf_mulRaw_top a b k ha hb (by
      have := List.length_pos_iff.mpr ha
      omega)]
theorem ev_of_trim_nil {a : List Int} (h : trimI a = []) (x : Int) : ev a x = 0 := by
  rw [← ev_trim, h]
  rfl
theorem mulI_nil_of {a b : List Int} (h : trimI a = [] ∨ trimI b = []) : mulI a b = [] := by
  show trimI (mulRaw a b) = trimI []
  refine trim_of_ev fun x => ?_
  rw [ev_mulRaw]
  rcases h with h | h
  · rw [ev_of_trim_nil h]
    show 0 * _ = (0 : Int)
    omega
  · rw [ev_of_trim_nil h]
    show _ * 0 = (0 : Int)
    omega
theorem ne_of_trim {a : List Int} (h : trimI a ≠ []) : a ≠ [] := fun e => h (by rw [e]; rfl)
/-- the values of the tails -/
def sv (a : Int) : List Int → List Int
  | [] => []
  | c :: l => ev (c :: l) a :: sv a l
theorem len_sv (a : Int) : ∀ l : List Int, (sv a l).length = l.length
  | [] => rfl
  | _ :: l => congrArg (· + 1) (len_sv a l)
def stepsN : Nat → Int → List Int → List Int
  | 0, _, _ => []
  | _ + 1, _, [] => []
  | n + 1, k, c :: l => ev (c :: l) k :: stepsN n (k + 1) (sv k l)
def stepsRaw (k : Int) (l : List Int) : List Int := stepsN l.length k l
theorem stepsRaw_cons (k c : Int) (l : List Int) : stepsRaw k (c :: l) = ev (c :: l) k :: stepsRaw (k + 1) (sv k l) := by
  show ev (c :: l) k :: stepsN l.length (k + 1) (sv k l) = _
  unfold stepsRaw
  rw [len_sv]
theorem stepsRaw_nil (k : Int) : stepsRaw k [] = [] := rfl
theorem len_steps : ∀ (n : Nat) (k : Int) (l : List Int), l.length = n → (stepsN n k l).length = n
  | 0, _, _, _ => rfl
  | n + 1, k, c :: l, h => congrArg (· + 1) (len_steps n (k + 1) (sv k l) (by rw [len_sv]; simpa using h))
theorem len_stepsRaw (k : Int) (l : List Int) : (stepsRaw k l).length = l.length := len_steps _ k l rfl
def stepsI (l : List Int) : List Int := trimI (stepsRaw 0 (trimI l))
def evS : Int → List Int → Int → Int
  | _, [], _ => 0
  | k, s :: l, x => s + (x - k) * evS (k + 1) l x
theorem sv_ev (k x c : Int) : ∀ l : List Int, ev (c :: l) x = ev (c :: l) k + (x - k) * ev (sv k l) x
  | [] => by
    show c + x * 0 = c + k * 0 + (x - k) * 0
    omega
  | d :: l => by
    have ih := sv_ev k x d l
    show c + x * ev (d :: l) x = c + k * ev (d :: l) k + (x - k) * (ev (d :: l) k + x * ev (sv k l) x)
    rw [ih]
    generalize ev (d :: l) k = u
    generalize ev (sv k l) x = v
    rw [Int.mul_add x, Int.mul_add (x - k), Int.sub_mul x k u, Int.mul_left_comm x (x - k) v]
    generalize (x - k) * (x * v) = w
    omega
theorem evS_steps (x : Int) : ∀ (n : Nat) (k : Int) (l : List Int), l.length = n → evS k (stepsRaw k l) x = ev l x
  | 0, k, [], _ => rfl
  | n + 1, k, c :: l, h => by
    rw [stepsRaw_cons]
    show ev (c :: l) k + (x - k) * evS (k + 1) (stepsRaw (k + 1) (sv k l)) x = _
    rw [evS_steps x n (k + 1) (sv k l) (by rw [len_sv]; simpa using h), ← sv_ev]
theorem evS_trim (x : Int) : ∀ (l : List Int) (k : Int), evS k (trimI l) x = evS k l x
  | [], _ => rfl
  | c :: l, k => by
    have ih := evS_trim x l (k + 1)
    unfold trimI
    by_cases h : trimI l = [] ∧ c = 0
    · rw [if_pos h]
      rw [h.1] at ih
      show 0 = c + (x - k) * evS (k + 1) l x
      rw [← ih, h.2]
      show (0 : Int) = 0 + (x - k) * 0
      omega
    · rw [if_neg h]
      show c + (x - k) * evS (k + 1) (trimI l) x = c + (x - k) * evS (k + 1) l x
      rw [ih]
theorem evS_stepsI (l : List Int) (x : Int) : evS 0 (stepsI l) x = ev l x := by
  unfold stepsI
  rw [evS_trim, evS_steps x _ 0 _ rfl, ev_trim]
/-- the row of steps -/
def unst : Int → List Int → List Int
  | _, [] => []
  | k, s :: l => addI (mulI (unst (k + 1) l) [-k, 1]) [s] 1
theorem ev_unst (x : Int) : ∀ (l : List Int) (k : Int), ev (unst k l) x = evS k l x
  | [], _ => rfl
  | s :: l, k => by
    show ev (addI (mulI (unst (k + 1) l) [-k, 1]) [s] 1) x = s + (x - k) * evS (k + 1) l x
    rw [ev_addI, ev_mulI, ev_unst x l (k + 1)]
    show evS (k + 1) l x * (-k + x * (1 + x * 0)) + 1 * (s + x * 0) = _
    rw [Int.mul_zero, Int.add_zero, Int.add_zero, Int.mul_one, Int.one_mul, Int.mul_comm (evS (k + 1) l x)]
    have e : -k + x = x - k := by omega
    rw [e]
    omega
theorem tr_unst : ∀ (l : List Int) (k : Int), Tr (unst k l)
  | [], _ => rfl
  | _ :: _, _ => tr_addI _ _ _
theorem len_unst : ∀ (l : List Int) (k : Int), (unst k l).length ≤ l.length
  | [], _ => Nat.zero_le _
  | s :: l, k => by
    have ih := len_unst l (k + 1)
    show (addI (mulI (unst (k + 1) l) [-k, 1]) [s] 1).length ≤ l.length + 1
    refine Nat.le_trans (len_addI _ _ _) ?_
    have q : (mulI (unst (k + 1) l) [-k, 1]).length ≤ l.length + 1 := by
      by_cases z : unst (k + 1) l = []
      · rw [z]
        exact Nat.zero_le _
      · have := len_mulI z (b := [-k, 1]) (by simp)
        simp at this
        omega
    exact Nat.max_le.mpr ⟨q, by simp⟩
end M
namespace M
def TOP : Nat := 10 ^ 40
theorem top_lt : TOP < 2 ^ 140 := by decide +kernel
def partS (m : Nat) : Nat → Nat
  | 0 => 1
  | k + 1 => if 1 < k + 1 then Nat.gcd m (partS m k * Nat.gcd m (k + 1)) else partS m k
def fct : Nat → Nat
  | 0 => 1
  | n + 1 => (n + 1) * fct n
theorem gcd_prod (m f k : Nat) : Nat.gcd m (Nat.gcd m f * Nat.gcd m k) = Nat.gcd m (f * k) := by
  refine Nat.dvd_antisymm (Nat.dvd_gcd (Nat.gcd_dvd_left ..) ?_) (Nat.dvd_gcd (Nat.gcd_dvd_left ..) ?_)
  · exact Nat.dvd_trans (Nat.gcd_dvd_right ..) (Nat.mul_dvd_mul (Nat.gcd_dvd_right ..) (Nat.gcd_dvd_right ..))
  · exact Nat.gcd_mul_right_dvd_mul_gcd m f k
theorem partS_eq (m : Nat) : ∀ k, partS m k = Nat.gcd m (fct k)
  | 0 => (Nat.gcd_one_right m).symm
  | 1 => by
    show (if 1 < 0 + 1 then _ else partS m 0) = Nat.gcd m 1
    rw [if_neg (by omega), Nat.gcd_one_right]
    rfl
  | k + 2 => by
    show (if 1 < k + 1 + 1 then Nat.gcd m (partS m (k + 1) * Nat.gcd m (k + 2)) else _) = Nat.gcd m ((k + 2) * fct (k + 1))
    rw [if_pos (by omega), partS_eq m (k + 1), gcd_prod, Nat.mul_comm]
theorem partS_pos {m : Nat} (hm : 0 < m) (k : Nat) : 0 < partS m k := by
  rw [partS_eq]
  exact Nat.gcd_pos_of_pos_left _ hm
theorem partS_le {m : Nat} (hm : 0 < m) (k : Nat) : partS m k ≤ m := by
  rw [partS_eq]
  exact Nat.gcd_le_left _ hm
theorem partS_dvd (m k : Nat) : partS m k ∣ m := by
  rw [partS_eq]
  exact Nat.gcd_dvd_left ..
def parts (m n : Nat) : List Int := (List.range n).map fun k => (partS m k : Int)
def bnd (m k : Nat) : Int := (m : Int) / (partS m k : Int)
def bounds (m n : Nat) : List Int := (List.range n).map (bnd m)
theorem len_bounds (m n : Nat) : (bounds m n).length = n := by simp [bounds]
theorem bnd_eq (m k : Nat) : bnd m k = ((m / partS m k : Nat) : Int) := (Int.natCast_ediv m (partS m k)).symm ▸ rfl
theorem bnd_pos {m : Nat} (hm : 0 < m) (k : Nat) : 0 < bnd m k := by
  rw [bnd_eq]
  have h := Nat.div_pos (partS_le hm k) (partS_pos hm k)
  exact Int.natCast_pos.mpr h
theorem bnd_le (m k : Nat) : bnd m k ≤ m := by
  rw [bnd_eq]
  exact Int.ofNat_le.mpr (Nat.div_le_self ..)
/-- the plain steps -/
def plI (m : Nat) (l : List Int) : List Int := trimI (((stepsI l).zip (bounds m (stepsI l).length)).map fun p => p.1 % p.2)
def pfI (m : Nat) (l : List Int) : List Int := unst 0 (plI m l)
def alikeB (m : Nat) (a b : List Int) : Bool := decide (plI m (addI a b (-1)) = [])
def hideI (m : Nat) (l o : List Int) : List Int := addI l (unst 0 ((o.zip (bounds m o.length)).map fun p => p.1 * p.2)) 1
theorem ev_bd {b : Nat} {k : Int} (hk : k.natAbs < 2 ^ 6) : ∀ {l : List Int}, Bd b l → (ev l k).natAbs < 2 ^ (b + 7 * l.length)
  | [], _ => Nat.pow_pos (by omega)
  | c :: l, h => by
    have ih := ev_bd hk (l := l) fun z hz => h z (List.mem_cons_of_mem _ hz)
    have h1 := h c (List.mem_cons_self ..)
    have h2 := mul_lt hk ih
    show (c + k * ev l k).natAbs < 2 ^ (b + 7 * (l.length + 1))
    have h3 := Int.natAbs_add_le c (k * ev l k)
    have h4 : 2 ^ b ≤ 2 ^ (6 + (b + 7 * l.length)) := Nat.pow_le_pow_right (by omega) (by omega)
    have h5 := pow_dbl (6 + (b + 7 * l.length))
    have e : b + 7 * (l.length + 1) = 6 + (b + 7 * l.length) + 1 := by omega
    rw [e]
    omega
theorem sv_bd {b : Nat} {k : Int} (hk : k.natAbs < 2 ^ 6) : ∀ {l : List Int}, Bd b l → Bd (b + 7 * l.length) (sv k l)
  | [], _ => Bd.nil
  | c :: l, h => fun z hz => by
    rcases List.mem_cons.mp hz with e | e
    · rw [e]
      exact ev_bd hk h
    · exact ((sv_bd hk (l := l) fun z hz => h z (List.mem_cons_of_mem _ hz)).mono (by simp; omega)) z e
theorem steps_bd : ∀ (n : Nat) {b : Nat} {k : Int} {l : List Int}, l.length = n → 0 ≤ k → k + n ≤ 62 → Bd b l → Bd (b + n * 450) (stepsN n k l)
  | 0, _, _, _, _, _, _, _ => Bd.nil
  | n + 1, b, k, c :: l, hl, h0, hk, h => fun z hz => by
    have hl' : l.length = n := by simpa using hl
    have k6 : k.natAbs < 2 ^ 6 := by omega
    rcases List.mem_cons.mp hz with e | e
    · rw [e]
      refine Nat.lt_of_lt_of_le (ev_bd k6 h) (Nat.pow_le_pow_right (by omega) ?_)
      rw [List.length_cons]
      omega
    · have q := sv_bd k6 (l := l) fun z hz => h z (List.mem_cons_of_mem _ hz)
      have r := steps_bd n (k := k + 1) (l := sv k l) (by rw [len_sv, hl']) (by omega) (by omega) q
      refine (r.mono ?_) z e
      omega
theorem stepsI_bd {b : Nat} {l : List Int} (hl : l.length ≤ 61) (h : Bd b l) : Bd (b + 61 * 450) (stepsI l) := by
  have lt := Nat.le_trans (trim_len l) hl
  unfold stepsI stepsRaw
  have q := steps_bd (trimI l).length (k := 0) rfl (by omega) (by omega) h.trim
  exact (q.mono (by omega)).trim
theorem stepsI_len (l : List Int) : (stepsI l).length ≤ l.length := by
  unfold stepsI
  refine Nat.le_trans (trim_len _) ?_
  rw [len_stepsRaw]
  exact trim_len l
theorem unst_bd {b : Nat} : ∀ {l : List Int} {k : Int}, 0 ≤ k → k + l.length ≤ 62 → Bd b l → Bd (b + l.length * 80) (unst k l)
  | [], _, _, _, _ => Bd.nil
  | s :: l, k, h0, hk, h => by
    have ih := unst_bd (l := l) (k := k + 1) (by omega) (by simp at hk; omega) fun z hz => h z (List.mem_cons_of_mem _ hz)
    have ll := len_unst l (k + 1)
    have b1 : Bd 6 [-k, 1] := fun z hz => by
      rcases List.mem_cons.mp hz with e | e
      · rw [e]
        simp at hk
        omega
      · rw [List.mem_singleton.mp e]
        decide
    have b2 := Bd.mulI ih b1
    have b3 : Bd b [s] := Bd.one (h s (List.mem_cons_self ..))
    have b4 := Bd.addI (n := 1) (d := 1) b2 b3 (by decide)
    refine b4.mono ?_
    simp at hk
    rw [List.length_cons]
    omega
theorem mod_bd {x : Int} {m k : Nat} (hm : 0 < m) (ht : m ≤ TOP) : (x % bnd m k).natAbs < 2 ^ 140 := by
  have h1 := Int.emod_nonneg x (Int.ne_of_gt (bnd_pos hm k))
  have h2 := Int.emod_lt_of_pos x (bnd_pos hm k)
  have h3 := bnd_le m k
  have h4 := top_lt
  omega
theorem plI_bd {m : Nat} {l : List Int} (hm : 0 < m) (ht : m ≤ TOP) : Bd 140 (plI m l) := by
  refine Bd.trim fun z hz => ?_
  obtain ⟨p, hp, e⟩ := List.mem_map.mp hz
  have := (List.of_mem_zip hp).2
  unfold bounds at this
  obtain ⟨k, _, ek⟩ := List.mem_map.mp this
  rw [← e, ← ek]
  exact mod_bd hm ht
theorem plI_len (m : Nat) (l : List Int) : (plI m l).length ≤ l.length := by
  unfold plI
  refine Nat.le_trans (trim_len _) ?_
  simp [len_bounds]
  exact stepsI_len l
theorem hide_bd {m p : Nat} {l o : List Int} (hm : 0 < m) (ht : m ≤ TOP) (ho : o.length ≤ 61) (h1 : Bd p l) (h2 : Bd 60 o) : Bd (max p (200 + 61 * 80 + 1) + 1) (hideI m l o) := by
  have b : Bd 200 ((o.zip (bounds m o.length)).map fun p => p.1 * p.2) := fun z hz => by
    obtain ⟨q, hq, e⟩ := List.mem_map.mp hz
    obtain ⟨q1, q2⟩ := List.of_mem_zip hq
    unfold bounds at q2
    obtain ⟨k, _, ek⟩ := List.mem_map.mp q2
    rw [← e]
    have u1 := h2 _ q1
    have u2 : q.2.natAbs < 2 ^ 140 := by
      rw [← ek]
      have := bnd_pos hm k
      have := bnd_le m k
      have := top_lt
      omega
    exact mul_lt u1 u2
  have ll : ((o.zip (bounds m o.length)).map fun p : Int × Int => p.1 * p.2).length = o.length := by simp [len_bounds]
  have b2 := unst_bd (k := 0) (by omega) (by rw [ll]; omega) b
  have b3 := Bd.addI (n := 1) (d := 1) h1 b2 (by decide)
  exact b3.mono (by rw [ll]; omega)
end M
namespace M
theorem mod_of_dvd {m a b : Int} (h : m ∣ a - b) : a % m = b % m := Int.emod_eq_emod_iff_emod_sub_eq_zero.mpr (Int.emod_eq_zero_of_dvd h)
def sumN (f : Nat → Int) : Nat → Int
  | 0 => 0
  | n + 1 => sumN f n + f n
theorem sumN_left (f : Nat → Int) : ∀ n, sumN f (n + 1) = f 0 + sumN (fun i => f (i + 1)) n
  | 0 => by simp [sumN]
  | n + 1 => by
    show sumN f (n + 1) + f (n + 1) = f 0 + (sumN (fun i => f (i + 1)) n + f (n + 1))
    rw [sumN_left f n]
    omega
theorem sumN_mul (c : Int) (f : Nat → Int) : ∀ n, c * sumN f n = sumN (fun i => c * f i) n
  | 0 => Int.mul_zero c
  | n + 1 => by
    show c * (sumN f n + f n) = sumN (fun i => c * f i) n + c * f n
    rw [Int.mul_add, sumN_mul c f n]
theorem sumN_ext {f g : Nat → Int} : ∀ {n : Nat}, (∀ i, i < n → f i = g i) → sumN f n = sumN g n
  | 0, _ => rfl
  | n + 1, h => by
    show sumN f n + f n = sumN g n + g n
    rw [sumN_ext fun i hi => h i (by omega), h n (by omega)]
theorem sumN_dvd {m : Int} {f : Nat → Int} : ∀ {n : Nat}, (∀ i, i < n → m ∣ f i) → m ∣ sumN f n
  | 0, _ => Int.dvd_zero m
  | n + 1, h => Int.dvd_add (sumN_dvd fun i hi => h i (by omega)) (h n (by omega))
theorem sumN_sub (f g : Nat → Int) : ∀ n, sumN f n - sumN g n = sumN (fun i => f i - g i) n
  | 0 => rfl
  | n + 1 => by
    have := sumN_sub f g n
    show sumN f n + f n - (sumN g n + g n) = sumN (fun i => f i - g i) n + (f n - g n)
    omega
def ff : Int → Nat → Int → Int
  | _, 0, _ => 1
  | k, j + 1, x => (x - k) * ff (k + 1) j x
theorem evS_sum (x : Int) : ∀ (s : List Int) (k : Int), evS k s x = sumN (fun i => cf s i * ff k i x) s.length
  | [], _ => rfl
  | c :: l, k => by
    show c + (x - k) * evS (k + 1) l x = sumN (fun i => cf (c :: l) i * ff k i x) (l.length + 1)
    rw [sumN_left, evS_sum x l (k + 1), sumN_mul]
    show _ = c * 1 + sumN (fun i => cf l i * ((x - k) * ff (k + 1) i x)) l.length
    rw [Int.mul_one]
    congr 1
    exact sumN_ext fun i _ => Int.mul_left_comm ..
theorem ff_shift : ∀ (j : Nat) (k x : Int), ff (k + 1) j (x + 1) = ff k j x
  | 0, _, _ => rfl
  | j + 1, k, x => by
    show (x + 1 - (k + 1)) * ff (k + 1 + 1) j (x + 1) = (x - k) * ff (k + 1) j x
    rw [ff_shift j (k + 1) x]
    congr 1
    omega
theorem ff_end : ∀ (j : Nat) (k x : Int), ff k (j + 1) x = ff k j x * (x - k - j)
  | 0, k, x => by
    show (x - k) * 1 = 1 * (x - k - (0 : Nat))
    omega
  | j + 1, k, x => by
    show (x - k) * ff (k + 1) (j + 1) x = (x - k) * ff (k + 1) j x * (x - k - (j + 1 : Nat))
    rw [ff_end j (k + 1) x, Int.mul_assoc]
    congr 2
    omega
theorem ff_diff (j : Nat) (x : Int) : ff 0 (j + 1) (x + 1) = ff 0 (j + 1) x + ((j + 1 : Nat) : Int) * ff 0 j x := by
  have e1 : ff 0 (j + 1) (x + 1) = (x + 1) * ff 0 j x := by
    show (x + 1 - 0) * ff (0 + 1) j (x + 1) = _
    rw [ff_shift j 0 x]
    congr 1
    omega
  rw [e1, ff_end j 0 x, Int.mul_comm (ff 0 j x), ← Int.add_mul]
  congr 1
  omega
theorem ff_zero (j : Nat) : ff 0 (j + 1) 0 = 0 := by
  show (0 - 0) * ff (0 + 1) j 0 = (0 : Int)
  exact Int.zero_mul _
theorem fct_dvd : ∀ (j : Nat) (x : Int), (fct j : Int) ∣ ff 0 j x
  | 0, _ => Int.one_dvd _
  | j + 1, x => by
    have st : ∀ y : Int, (fct (j + 1) : Int) ∣ ((j + 1 : Nat) : Int) * ff 0 j y := fun y => by
      show (((j + 1) * fct j : Nat) : Int) ∣ _
      rw [Int.natCast_mul]
      exact Int.mul_dvd_mul_left _ (fct_dvd j y)
    have up : ∀ n : Nat, (fct (j + 1) : Int) ∣ ff 0 (j + 1) (n : Int) := fun n => by
      induction n with
      | zero =>
        show _ ∣ ff 0 (j + 1) 0
        rw [ff_zero]
        exact Int.dvd_zero _
      | succ n ih =>
        show _ ∣ ff 0 (j + 1) ((n : Int) + 1)
        rw [ff_diff]
        exact Int.dvd_add ih (st n)
    have down : ∀ n : Nat, (fct (j + 1) : Int) ∣ ff 0 (j + 1) (-(n : Int)) := fun n => by
      induction n with
      | zero =>
        show _ ∣ ff 0 (j + 1) 0
        rw [ff_zero]
        exact Int.dvd_zero _
      | succ n ih =>
        have e := ff_diff j (-((n + 1 : Nat) : Int))
        have e2 : -((n + 1 : Nat) : Int) + 1 = -(n : Int) := by omega
        rw [e2] at e
        have e3 : ff 0 (j + 1) (-((n + 1 : Nat) : Int)) = ff 0 (j + 1) (-(n : Int)) - ((j + 1 : Nat) : Int) * ff 0 j (-((n + 1 : Nat) : Int)) := by omega
        rw [e3]
        exact Int.dvd_sub ih (st _)
    by_cases h : 0 ≤ x
    · have := up x.toNat
      rwa [Int.toNat_of_nonneg h] at this
    · have := down (-x).toNat
      have e : (((-x).toNat : Nat) : Int) = -x := Int.toNat_of_nonneg (by omega)
      rw [e, Int.neg_neg] at this
      exact this
theorem ff_top : ∀ j : Nat, ff 0 j (j : Int) = (fct j : Int)
  | 0 => rfl
  | j + 1 => by
    show ((((j + 1 : Nat) : Int)) - 0) * ff (0 + 1) j ((j + 1 : Nat) : Int) = (((j + 1) * fct j : Nat) : Int)
    have e : ((j + 1 : Nat) : Int) = (j : Int) + 1 := rfl
    rw [Int.sub_zero, e, ff_shift j 0 (j : Int), ff_top j, Int.natCast_mul]
    rfl
theorem ff_low : ∀ (i : Nat) (k : Int) (x : Nat), k + i > x → k ≤ x → ff k i (x : Int) = 0
  | 0, k, x, h, h2 => by
    simp at h
    omega
  | i + 1, k, x, h, h2 => by
    show ((x : Int) - k) * ff (k + 1) i x = 0
    by_cases e : k = x
    · rw [e, Int.sub_self, Int.zero_mul]
    · rw [ff_low i (k + 1) x (by omega) (by omega), Int.mul_zero]
theorem bnd_mul (m j : Nat) (hm : 0 < m) : bnd m j * (partS m j : Int) = m := by
  rw [bnd_eq, ← Int.natCast_mul, Nat.div_mul_cancel (partS_dvd m j)]
theorem m_dvd_bnd {m : Nat} (hm : 0 < m) (j : Nat) (x : Int) : (m : Int) ∣ bnd m j * ff 0 j x := by
  obtain ⟨q, hq⟩ := fct_dvd j x
  have hg : (partS m j : Int) ∣ (fct j : Int) := by
    rw [partS_eq]
    exact Int.natCast_dvd_natCast.mpr (Nat.gcd_dvd_right ..)
  obtain ⟨r, hr⟩ := hg
  refine ⟨r * q, ?_⟩
  rw [hq, hr, ← bnd_mul m j hm]
  simp only [Int.mul_assoc]
theorem bnd_of_dvd {m : Nat} (hm : 0 < m) {j : Nat} {s : Int} (h : (m : Int) ∣ s * (fct j : Int)) : bnd m j ∣ s := by
  have h1 : m ∣ s.natAbs * fct j := by
    have := Int.natAbs_dvd_natAbs.mpr h
    rwa [Int.natAbs_mul, Int.natAbs_natCast, Int.natAbs_natCast] at this
  have h2 : m ∣ s.natAbs * partS m j := by
    rw [partS_eq]
    have := Nat.dvd_gcd (Nat.dvd_mul_left m s.natAbs) h1
    rwa [Nat.gcd_mul_left] at this
  have hp := partS_pos hm j
  have e : m / partS m j * partS m j = m := Nat.div_mul_cancel (partS_dvd m j)
  have h3 : m / partS m j ∣ s.natAbs := by
    rw [← e] at h2
    exact Nat.dvd_of_mul_dvd_mul_right hp (by rwa [e] at h2 ⊢)
  rw [bnd_eq]
  exact Int.ofNat_dvd_left.mpr h3
/-- if it's always nought by the clock, each step is a multiple of its bound -/
theorem steps_dvd {m : Nat} (hm : 0 < m) {s : List Int} (h : ∀ x : Nat, (m : Int) ∣ evS 0 s (x : Int)) : ∀ j : Nat, (m : Int) ∣ cf s j * (fct j : Int) := by
  have key : ∀ n : Nat, ∀ j : Nat, j < n → (m : Int) ∣ cf s j * (fct j : Int) := fun n => by
    induction n with
    | zero => exact fun j hj => absurd hj (Nat.not_lt_zero j)
    | succ n ih =>
      intro j hj
      by_cases hjn : j < n
      · exact ih j hjn
      · have ejn : j = n := by omega
        subst ejn
        by_cases hl : j < s.length
        · have q := h j
          rw [evS_sum] at q
          have split : ∀ d : Nat, sumN (fun i => cf s i * ff 0 i (j : Int)) (j + 1 + d) = sumN (fun i => cf s i * ff 0 i (j : Int)) (j + 1) := fun d => by
            induction d with
            | zero => rfl
            | succ d ihd =>
              show sumN (fun i => cf s i * ff 0 i (j : Int)) (j + 1 + d) + cf s (j + 1 + d) * ff 0 (j + 1 + d) (j : Int) = _
              rw [ihd, ff_low (j + 1 + d) 0 j (by omega) (by omega), Int.mul_zero, Int.add_zero]
          have e1 := split (s.length - (j + 1))
          have e2 : j + 1 + (s.length - (j + 1)) = s.length := by omega
          rw [e2] at e1
          rw [e1] at q
          have e3 : sumN (fun i => cf s i * ff 0 i (j : Int)) (j + 1) = sumN (fun i => cf s i * ff 0 i (j : Int)) j + cf s j * ff 0 j (j : Int) := rfl
          rw [e3, ff_top] at q
          have low : (m : Int) ∣ sumN (fun i => cf s i * ff 0 i (j : Int)) j := sumN_dvd fun i hi => by
            obtain ⟨c, hc⟩ := fct_dvd i (j : Int)
            obtain ⟨c2, hc2⟩ := ih i hi
            refine ⟨c2 * c, ?_⟩
            rw [hc, ← Int.mul_assoc, hc2, Int.mul_assoc]
          exact (Int.dvd_add_right low).mp q
        · rw [cf_ge (by omega), Int.zero_mul]
          exact Int.dvd_zero _
  exact fun j => key (j + 1) j (by omega)
theorem evS_addRaw (n x : Int) : ∀ (a b : List Int) (k : Int), evS k (addRaw n a b) x = evS k a x + n * evS k b x
  | a, [], k => by
    have e : addRaw n a [] = a := by cases a <;> rfl
    rw [e]
    show _ = evS k a x + n * 0
    omega
  | [], y :: b, k => by
    show n * y + (x - k) * evS (k + 1) (addRaw n [] b) x = 0 + n * (y + (x - k) * evS (k + 1) b x)
    rw [evS_addRaw n x [] b (k + 1), Int.mul_add n]
    show n * y + (x - k) * (0 + n * evS (k + 1) b x) = _
    rw [Int.zero_add, Int.mul_left_comm]
    omega
  | c :: a, y :: b, k => by
    show (c + n * y) + (x - k) * evS (k + 1) (addRaw n a b) x = (c + (x - k) * evS (k + 1) a x) + n * (y + (x - k) * evS (k + 1) b x)
    rw [evS_addRaw n x a b (k + 1), Int.mul_add, Int.mul_add, Int.mul_left_comm (x - k) n]
    omega
/-- told alike by the clock -/
def Cg (m : Nat) (a b : List Int) : Prop := ∀ x : Int, (m : Int) ∣ ev a x - ev b x
theorem Cg.refl (m : Nat) (a : List Int) : Cg m a a := fun x => by
  rw [Int.sub_self]
  exact Int.dvd_zero _
theorem Cg.symm {m : Nat} {a b : List Int} (h : Cg m a b) : Cg m b a := fun x => by
  have := Int.dvd_neg.mpr (h x)
  rwa [Int.neg_sub] at this
theorem Cg.trans {m : Nat} {a b c : List Int} (h : Cg m a b) (k : Cg m b c) : Cg m a c := fun x => by
  have := Int.dvd_add (h x) (k x)
  have e : ev a x - ev b x + (ev b x - ev c x) = ev a x - ev c x := by omega
  rwa [e] at this
theorem Cg.mod {m : Nat} {a b : List Int} (h : Cg m a b) (x : Int) : ev a x % (m : Int) = ev b x % (m : Int) := mod_of_dvd (h x)
theorem cf_map_zip {s t : List Int} {f : Int × Int → Int} (h : s.length = t.length) : ∀ {j : Nat}, j < s.length → cf ((s.zip t).map f) j = f (cf s j, cf t j) := fun {j} hj => by
  unfold cf
  rw [List.getD_eq_getElem?_getD, List.getElem?_map, List.getElem?_eq_getElem (by rw [List.length_zip]; omega), List.getElem_zip, List.getD_eq_getElem?_getD, List.getD_eq_getElem?_getD, List.getElem?_eq_getElem hj, List.getElem?_eq_getElem (by omega)]
  rfl
theorem cf_bounds {m n j : Nat} (h : j < n) : cf (bounds m n) j = bnd m j := by
  unfold cf bounds
  rw [List.getD_eq_getElem?_getD, List.getElem?_map, List.getElem?_range h]
  rfl
theorem cf_pl (m : Nat) (s : List Int) (j : Nat) : cf ((s.zip (bounds m s.length)).map fun p => p.1 % p.2) j = cf s j % bnd m j := by
  by_cases h : j < s.length
  · rw [cf_map_zip (by rw [len_bounds]) h, cf_bounds h]
  · rw [cf_ge (by simp [len_bounds]; omega), cf_ge (by omega), Int.zero_emod]
/-- alike formulas have one plain form -/
theorem plI_eq {m : Nat} (hm : 0 < m) {a b : List Int} (h : Cg m a b) : plI m a = plI m b := by
  have d := steps_dvd hm (s := addRaw (-1) (stepsI a) (stepsI b)) fun x => by
    rw [evS_addRaw, evS_stepsI, evS_stepsI]
    have := h x
    have e : ev a x + -1 * ev b x = ev a x - ev b x := by omega
    rw [e]
    exact this
  unfold plI
  refine trim_ext fun j => ?_
  rw [cf_pl, cf_pl]
  have q := bnd_of_dvd hm (d j)
  rw [cf_addRaw] at q
  have e : cf (stepsI a) j + -1 * cf (stepsI b) j = cf (stepsI a) j - cf (stepsI b) j := by omega
  rw [e] at q
  exact mod_of_dvd q
theorem pfI_eq {m : Nat} (hm : 0 < m) {a b : List Int} (h : Cg m a b) : pfI m a = pfI m b := by
  unfold pfI
  rw [plI_eq hm h]
theorem plI_nil (m : Nat) : plI m [] = [] := rfl
theorem alike_of {m : Nat} (hm : 0 < m) {a b : List Int} (h : Cg m a b) : alikeB m a b = true := by
  unfold alikeB
  refine decide_eq_true ?_
  rw [← plI_nil m]
  refine plI_eq hm fun x => ?_
  rw [ev_addI]
  have e : ev a x + -1 * ev b x - ev [] x = ev a x - ev b x := by
    show _ - 0 = _
    omega
  rw [e]
  exact h x
/-- the plain form tells the same -/
theorem pfI_cg {m : Nat} (hm : 0 < m) (a : List Int) : Cg m (pfI m a) a := fun x => by
  unfold pfI plI
  rw [ev_unst, evS_trim, ← evS_stepsI a x, evS_sum, evS_sum]
  have hl : ((stepsI a).zip (bounds m (stepsI a).length)).length = (stepsI a).length := by simp [len_bounds]
  rw [List.length_map, hl, sumN_sub]
  refine sumN_dvd fun i hi => ?_
  rw [cf_pl, ← Int.sub_mul]
  have e : cf (stepsI a) i % bnd m i - cf (stepsI a) i = bnd m i * -(cf (stepsI a) i / bnd m i) := by
    have := Int.emod_add_mul_ediv (cf (stepsI a) i) (bnd m i)
    rw [Int.mul_neg]
    omega
  rw [e, Int.mul_right_comm]
  exact Int.dvd_mul_of_dvd_left (m_dvd_bnd hm i x)
/-- what is hidden isn't told -/
theorem hideI_cg {m : Nat} (hm : 0 < m) (a o : List Int) : Cg m (hideI m a o) a := fun x => by
  unfold hideI
  rw [ev_addI, ev_unst]
  have e : ev a x + 1 * evS 0 ((o.zip (bounds m o.length)).map fun p => p.1 * p.2) x - ev a x = evS 0 ((o.zip (bounds m o.length)).map fun p => p.1 * p.2) x := by omega
  rw [e, evS_sum]
  refine sumN_dvd fun i hi => ?_
  have hl : ((o.zip (bounds m o.length)).map fun p => p.1 * p.2).length = o.length := by simp [len_bounds]
  rw [hl] at hi
  rw [cf_map_zip (by rw [len_bounds]) hi, cf_bounds hi]
  show (m : Int) ∣ cf o i * bnd m i * ff 0 i x
  rw [Int.mul_assoc]
  exact Int.dvd_mul_of_dvd_right (m_dvd_bnd hm i x)
theorem addI_cg {m : Nat} {a b : List Int} (h : Cg m a b) (c : List Int) : Cg m (addI a c 1) (addI b c 1) := fun x => by
  rw [ev_addI, ev_addI]
  have e : ev a x + 1 * ev c x - (ev b x + 1 * ev c x) = ev a x - ev b x := by omega
  rw [e]
  exact h x
theorem mulI_cg {m : Nat} {a b : List Int} (h : Cg m a b) (c : List Int) : Cg m (mulI a c) (mulI b c) := fun x => by
  rw [ev_mulI, ev_mulI, ← Int.sub_mul]
  exact Int.dvd_mul_of_dvd_left (h x)
theorem ev_sub_dvd (x y : Int) : ∀ l : List Int, x - y ∣ ev l x - ev l y
  | [] => by
    show _ ∣ (0 : Int) - 0
    exact Int.dvd_zero _
  | c :: l => by
    obtain ⟨q, hq⟩ := ev_sub_dvd x y l
    refine ⟨ev l x + y * q, ?_⟩
    show c + x * ev l x - (c + y * ev l y) = _
    have e : ev l y = ev l x - (x - y) * q := by omega
    rw [e, Int.mul_add, Int.mul_sub, Int.sub_mul x y (ev l x), Int.mul_left_comm y (x - y) q]
    omega
theorem compI_cg {m : Nat} {a b : List Int} (h : Cg m a b) (c : List Int) : Cg m (compI c a) (compI c b) := fun x => by
  rw [ev_compI, ev_compI]
  exact Int.dvd_trans (h x) (ev_sub_dvd _ _ c)
theorem ev_mod (l : List Int) (x : Int) (m : Nat) : ev l (x % (m : Int)) % (m : Int) = ev l x % (m : Int) := by
  refine mod_of_dvd ?_
  refine Int.dvd_trans ?_ (ev_sub_dvd _ _ l)
  refine ⟨-(x / m), ?_⟩
  have := Int.emod_add_mul_ediv x m
  rw [Int.mul_neg]
  omega
theorem pf_len {m : Nat} {l : List Int} (h : l.length ≤ 61) : (pfI m l).length ≤ 61 := Nat.le_trans (len_unst _ _) (Nat.le_trans (plI_len m l) h)
theorem pf_bd {m : Nat} {l : List Int} (hm : 0 < m) (ht : m ≤ TOP) (h : l.length ≤ 61) : Bd 5100 (pfI m l) := by
  have ll := Nat.le_trans (plI_len m l) h
  exact (unst_bd (k := 0) (by omega) (by omega) (plI_bd hm ht)).mono (by omega)
theorem hide_len {m : Nat} {l o : List Int} (h : l.length ≤ 61) (ho : o.length ≤ 61) : (hideI m l o).length ≤ 61 := by
  refine Nat.le_trans (len_addI _ _ _) (Nat.max_le.mpr ⟨h, Nat.le_trans (len_unst _ _) ?_⟩)
  simp [len_bounds]
  exact ho
end M
namespace Y
open PySem L2
def topS (i : Nat) : Stmt := PySem.Challenge.pw_samebyclock_k79_whole_texts_written_and.main.body.getD i (.Pass ⟨0, 0, 0, 0⟩)
structure Ad where
  is_integer : Addr
  is_formula : Addr
  checked_formulas : Addr
  trimmed : Addr
  fitting : Addr
  row_sum : Addr
  row_product : Addr
  power_text : Addr
  formula_text : Addr
  function_text : Addr
  is_clock : Addr
  checked_clock : Addr
  is_numeral : Addr
  tokens_of : Addr
  Cursor___init__ : Addr
  Cursor_ahead : Addr
  Cursor_take : Addr
  Cursor_number : Addr
  Cursor_end : Addr
  read_atom : Addr
  read_power : Addr
  read_product : Addr
  read_sum : Addr
  read_formula : Addr
  read_function : Addr
  _law_draw : Addr
  _law_any : Addr
  _law_of : Addr
  _law_same : Addr
  _law_great : Addr
  _law_trim : Addr
  _law_add : Addr
  _law_by : Addr
  _law_row : Addr
  _law_small_clock : Addr
  _law_tokens : Addr
  _law_written : Addr
  _law_atom : Addr
  _law_product : Addr
  _law_sum : Addr
  _law_plain_text : Addr
  law : Addr
  Cursor : Addr
structure Fd where
  is_integer : FuncData
  is_formula : FuncData
  checked_formulas : FuncData
  trimmed : FuncData
  fitting : FuncData
  row_sum : FuncData
  row_product : FuncData
  power_text : FuncData
  formula_text : FuncData
  function_text : FuncData
  is_clock : FuncData
  checked_clock : FuncData
  is_numeral : FuncData
  tokens_of : FuncData
  Cursor___init__ : FuncData
  Cursor_ahead : FuncData
  Cursor_take : FuncData
  Cursor_number : FuncData
  Cursor_end : FuncData
  read_atom : FuncData
  read_power : FuncData
  read_product : FuncData
  read_sum : FuncData
  read_formula : FuncData
  read_function : FuncData
  _law_draw : FuncData
  _law_any : FuncData
  _law_of : FuncData
  _law_same : FuncData
  _law_great : FuncData
  _law_trim : FuncData
  _law_add : FuncData
  _law_by : FuncData
  _law_row : FuncData
  _law_small_clock : FuncData
  _law_tokens : FuncData
  _law_written : FuncData
  _law_atom : FuncData
  _law_product : FuncData
  _law_sum : FuncData
  _law_plain_text : FuncData
  law : FuncData
structure Txt (K : PySem.W.Frag) (mg : Str → Option Value) (a : Ad) (d : Fd) : Prop where
  F_is_integer : Fun K "is_integer" "is_integer" (topS 7) a.is_integer d.is_integer
  b_is_integer : Binds K d.is_integer ["value"] []
  m_is_integer : mg "is_integer" = some (.ref a.is_integer)
  F_is_formula : Fun K "is_formula" "is_formula" (topS 10) a.is_formula d.is_formula
  b_is_formula : Binds K d.is_formula ["value"] []
  m_is_formula : mg "is_formula" = some (.ref a.is_formula)
  F_checked_formulas : Fun K "checked_formulas" "checked_formulas" (topS 11) a.checked_formulas d.checked_formulas
  m_checked_formulas : mg "checked_formulas" = some (.ref a.checked_formulas)
  F_trimmed : Fun K "trimmed" "trimmed" (topS 12) a.trimmed d.trimmed
  b_trimmed : Binds K d.trimmed ["row"] []
  m_trimmed : mg "trimmed" = some (.ref a.trimmed)
  F_fitting : Fun K "fitting" "fitting" (topS 13) a.fitting d.fitting
  b_fitting : Binds K d.fitting ["row"] []
  m_fitting : mg "fitting" = some (.ref a.fitting)
  F_row_sum : Fun K "row_sum" "row_sum" (topS 14) a.row_sum d.row_sum
  b_row_sum : Binds K d.row_sum ["one", "other", "number"] []
  m_row_sum : mg "row_sum" = some (.ref a.row_sum)
  F_row_product : Fun K "row_product" "row_product" (topS 15) a.row_product d.row_product
  b_row_product : Binds K d.row_product ["one", "other"] []
  m_row_product : mg "row_product" = some (.ref a.row_product)
  F_power_text : Fun K "power_text" "power_text" (topS 17) a.power_text d.power_text
  b_power_text : Binds K d.power_text ["many", "at"] []
  m_power_text : mg "power_text" = some (.ref a.power_text)
  F_formula_text : Fun K "formula_text" "formula_text" (topS 18) a.formula_text d.formula_text
  b_formula_text : Binds K d.formula_text ["formula"] []
  m_formula_text : mg "formula_text" = some (.ref a.formula_text)
  F_function_text : Fun K "function_text" "function_text" (topS 19) a.function_text d.function_text
  b_function_text : Binds K d.function_text ["function"] []
  m_function_text : mg "function_text" = some (.ref a.function_text)
  F_is_clock : Fun K "is_clock" "is_clock" (topS 23) a.is_clock d.is_clock
  b_is_clock : Binds K d.is_clock ["value"] []
  m_is_clock : mg "is_clock" = some (.ref a.is_clock)
  F_checked_clock : Fun K "checked_clock" "checked_clock" (topS 24) a.checked_clock d.checked_clock
  b_checked_clock : Binds K d.checked_clock ["m"] []
  m_checked_clock : mg "checked_clock" = some (.ref a.checked_clock)
  F_is_numeral : Fun K "is_numeral" "is_numeral" (topS 28) a.is_numeral d.is_numeral
  b_is_numeral : Binds K d.is_numeral ["token"] []
  m_is_numeral : mg "is_numeral" = some (.ref a.is_numeral)
  F_tokens_of : Fun K "tokens_of" "tokens_of" (topS 29) a.tokens_of d.tokens_of
  b_tokens_of : Binds K d.tokens_of ["text"] []
  m_tokens_of : mg "tokens_of" = some (.ref a.tokens_of)
  F_Cursor___init__ : Fun K "__init__" "Cursor.__init__" (inClass (topS 33) 0) a.Cursor___init__ d.Cursor___init__
  b_Cursor___init__ : Binds K d.Cursor___init__ ["self", "text"] []
  F_Cursor_ahead : Fun K "ahead" "Cursor.ahead" (inClass (topS 33) 1) a.Cursor_ahead d.Cursor_ahead
  b_Cursor_ahead : Binds K d.Cursor_ahead ["self"] []
  me_Cursor_ahead : Meth K a.Cursor "ahead" a.Cursor_ahead
  F_Cursor_take : Fun K "take" "Cursor.take" (inClass (topS 33) 3) a.Cursor_take d.Cursor_take
  b_Cursor_take : Binds K d.Cursor_take ["self", "token"] []
  me_Cursor_take : Meth K a.Cursor "take" a.Cursor_take
  F_Cursor_number : Fun K "number" "Cursor.number" (inClass (topS 33) 4) a.Cursor_number d.Cursor_number
  b_Cursor_number : Binds K d.Cursor_number ["self", "digits", "high"] []
  me_Cursor_number : Meth K a.Cursor "number" a.Cursor_number
  F_Cursor_end : Fun K "end" "Cursor.end" (inClass (topS 33) 5) a.Cursor_end d.Cursor_end
  b_Cursor_end : Binds K d.Cursor_end ["self"] []
  me_Cursor_end : Meth K a.Cursor "end" a.Cursor_end
  F_read_atom : Fun K "read_atom" "read_atom" (topS 34) a.read_atom d.read_atom
  b_read_atom : Binds K d.read_atom ["cursor", "deep"] []
  m_read_atom : mg "read_atom" = some (.ref a.read_atom)
  F_read_power : Fun K "read_power" "read_power" (topS 35) a.read_power d.read_power
  b_read_power : Binds K d.read_power ["cursor", "deep"] []
  m_read_power : mg "read_power" = some (.ref a.read_power)
  F_read_product : Fun K "read_product" "read_product" (topS 36) a.read_product d.read_product
  b_read_product : Binds K d.read_product ["cursor", "deep"] []
  m_read_product : mg "read_product" = some (.ref a.read_product)
  F_read_sum : Fun K "read_sum" "read_sum" (topS 37) a.read_sum d.read_sum
  b_read_sum : Binds K d.read_sum ["cursor", "deep"] []
  m_read_sum : mg "read_sum" = some (.ref a.read_sum)
  F_read_formula : Fun K "read_formula" "read_formula" (topS 38) a.read_formula d.read_formula
  b_read_formula : Binds K d.read_formula ["text"] []
  m_read_formula : mg "read_formula" = some (.ref a.read_formula)
  F_read_function : Fun K "read_function" "read_function" (topS 39) a.read_function d.read_function
  b_read_function : Binds K d.read_function ["m", "text"] []
  m_read_function : mg "read_function" = some (.ref a.read_function)
  F__law_draw : Fun K "_law_draw" "_law_draw" (topS 41) a._law_draw d._law_draw
  b__law_draw : Binds K d._law_draw ["script", "salt"] []
  m__law_draw : mg "_law_draw" = some (.ref a._law_draw)
  F__law_any : Fun K "_law_any" "_law_any" (topS 42) a._law_any d._law_any
  b__law_any : Binds K d._law_any ["deal", "bound"] []
  m__law_any : mg "_law_any" = some (.ref a._law_any)
  F__law_of : Fun K "_law_of" "_law_of" (topS 43) a._law_of d._law_of
  b__law_of : Binds K d._law_of ["deal", "some"] []
  m__law_of : mg "_law_of" = some (.ref a._law_of)
  F__law_same : Fun K "_law_same" "_law_same" (topS 44) a._law_same d._law_same
  b__law_same : Binds K d._law_same ["value", "due"] []
  m__law_same : mg "_law_same" = some (.ref a._law_same)
  F__law_great : Fun K "_law_great" "_law_great" (topS 45) a._law_great d._law_great
  b__law_great : Binds K d._law_great ["deal"] []
  m__law_great : mg "_law_great" = some (.ref a._law_great)
  F__law_trim : Fun K "_law_trim" "_law_trim" (topS 46) a._law_trim d._law_trim
  b__law_trim : Binds K d._law_trim ["row"] []
  m__law_trim : mg "_law_trim" = some (.ref a._law_trim)
  F__law_add : Fun K "_law_add" "_law_add" (topS 47) a._law_add d._law_add
  b__law_add : Binds K d._law_add ["one", "other", "many"] []
  m__law_add : mg "_law_add" = some (.ref a._law_add)
  F__law_by : Fun K "_law_by" "_law_by" (topS 48) a._law_by d._law_by
  b__law_by : Binds K d._law_by ["one", "other"] []
  m__law_by : mg "_law_by" = some (.ref a._law_by)
  F__law_row : Fun K "_law_row" "_law_row" (topS 49) a._law_row d._law_row
  b__law_row : Binds K d._law_row ["deal", "most"] []
  m__law_row : mg "_law_row" = some (.ref a._law_row)
  F__law_small_clock : Fun K "_law_small_clock" "_law_small_clock" (topS 50) a._law_small_clock d._law_small_clock
  b__law_small_clock : Binds K d._law_small_clock ["deal", "most"] []
  m__law_small_clock : mg "_law_small_clock" = some (.ref a._law_small_clock)
  F__law_tokens : Fun K "_law_tokens" "_law_tokens" (topS 51) a._law_tokens d._law_tokens
  b__law_tokens : Binds K d._law_tokens ["text"] []
  m__law_tokens : mg "_law_tokens" = some (.ref a._law_tokens)
  F__law_written : Fun K "_law_written" "_law_written" (topS 52) a._law_written d._law_written
  b__law_written : Binds K d._law_written ["deal", "words"] []
  m__law_written : mg "_law_written" = some (.ref a._law_written)
  F__law_atom : Fun K "_law_atom" "_law_atom" (topS 53) a._law_atom d._law_atom
  b__law_atom : Binds K d._law_atom ["deal", "deep"] []
  m__law_atom : mg "_law_atom" = some (.ref a._law_atom)
  F__law_product : Fun K "_law_product" "_law_product" (topS 54) a._law_product d._law_product
  b__law_product : Binds K d._law_product ["deal", "deep"] []
  m__law_product : mg "_law_product" = some (.ref a._law_product)
  F__law_sum : Fun K "_law_sum" "_law_sum" (topS 55) a._law_sum d._law_sum
  b__law_sum : Binds K d._law_sum ["deal", "deep", "most"] []
  m__law_sum : mg "_law_sum" = some (.ref a._law_sum)
  F__law_plain_text : Fun K "_law_plain_text" "_law_plain_text" (topS 56) a._law_plain_text d._law_plain_text
  b__law_plain_text : Binds K d._law_plain_text ["row"] []
  m__law_plain_text : mg "_law_plain_text" = some (.ref a._law_plain_text)
  F_law : Fun K "law" "law" (topS 57) a.law d.law
  b_law : Binds K d.law ["script"] []
  m_law : mg "law" = some (.ref a.law)
  m_Cursor : mg "Cursor" = some (.ref a.Cursor)
  cl_Cursor : Cls K a.Cursor
  M_Cursor : Mk K a.Cursor a.Cursor___init__
  na_tokens : NoAttr K a.Cursor "tokens"
  na_at : NoAttr K a.Cursor "at"
  n_abs : mg "abs" = none
  n_all : mg "all" = none
  n_any : mg "any" = none
  n_bool : mg "bool" = none
  n_enumerate : mg "enumerate" = none
  n_int : mg "int" = none
  n_isinstance : mg "isinstance" = none
  n_len : mg "len" = none
  n_list : mg "list" = none
  n_max : mg "max" = none
  n_min : mg "min" = none
  n_range : mg "range" = none
  n_reversed : mg "reversed" = none
  n_str : mg "str" = none
  n_tuple : mg "tuple" = none
  n_zip : mg "zip" = none
  kb_formula_text : KBn K d.formula_text ["formula"] 0 ["formula"] (fun us ws => us ++ ws) (fun vs zs => vs ++ zs)
  kb_function_text : KBn K d.function_text ["function"] 0 ["function"] (fun us ws => us ++ ws) (fun vs zs => vs ++ zs)
  kb_read_formula : KBn K d.read_formula ["text"] 0 ["text"] (fun us ws => us ++ ws) (fun vs zs => vs ++ zs)
  kb_read_function : KBn K d.read_function ["m", "text"] 0 ["m", "text"] (fun us ws => us ++ ws) (fun vs zs => vs ++ zs)
  dig : Z.DigK K
  c_MOST_PLACES : ∃ u, mg "MOST_PLACES" = some u ∧ RelV (.int 61) u
  c_MOST_CLOCK : ∃ u, mg "MOST_CLOCK" = some u ∧ RelV (.int 10000000000000000000000000000000000000000) u
  c_MOST_HOURS : ∃ u, mg "MOST_HOURS" = some u ∧ RelV (.int 600) u
  c_MARKS : ∃ u, mg "MARKS" = some u ∧ RelV (.str "+-*^()") u
  c_BLANKS : ∃ u, mg "BLANKS" = some u ∧ RelV (.str " \t\n") u
  c_MOST_DEEP : ∃ u, mg "MOST_DEEP" = some u ∧ RelV (.int 20) u
  c_MOST_DIGITS : ∃ u, mg "MOST_DIGITS" = some u ∧ RelV (.int 60) u
end Y
namespace Y
open PySem L2 Z M StX
section
variable {P : Program} {w : World} {K : PySem.W.Frag} {mg : Str → Option Value} {base : Heap} {a : Ad} {d : Fd}
def isInt : PyData → Bool
  | .int _ => true
  | _ => false
def isForm : PyData → Bool
  | .tuple ds => decide (ds.length ≤ 61) && ds.all isInt
  | _ => false
def isTup : PyData → Bool
  | .tuple _ => true
  | _ => false
def isIB : PyData → Bool
  | .int _ => true
  | .bool _ => true
  | _ => false
def isBo : PyData → Bool
  | .bool _ => true
  | _ => false
theorem k_int : ∀ d : PyData, kitB (tyD d) "int" = some (isIB d) := fun d => by cases d <;> rfl
theorem k_bool : ∀ d : PyData, kitB (tyD d) "bool" = some (isBo d) := fun d => by cases d <;> rfl
theorem k_tuple : ∀ d : PyData, kitB (tyD d) "tuple" = some (isTup d) := fun d => by cases d <;> rfl
theorem isInt_eq (d : PyData) : (isIB d && !isBo d) = isInt d := by cases d <;> rfl
theorem form_ints {ns : List Int} (h : ns.length ≤ 61) : isForm (tI ns) = true := by
  show (decide ((ns.map PyData.int).length ≤ 61) && (ns.map PyData.int).all isInt) = true
  rw [List.length_map, decide_eq_true h, Bool.true_and]
  exact List.all_eq_true.mpr fun x hx => by
    obtain ⟨n, _, e⟩ := List.mem_map.mp hx
    rw [← e]
    rfl
theorem sc_is_integer : FnScope ["value"] ["value"] (defScope (topS 7)) := ⟨rfl, rfl, rfl, by decide +kernel, rfl, by decide +kernel, by decide +kernel⟩
theorem ok_is_integer (T : Txt K mg a d) : FnOk P w K mg base CX0 1 a.is_integer d.is_integer ["value"] (spD K (fun i : PyData => [i]) (fun i => .bool (isInt i))) := by
  refine T.F_is_integer.ok sc_is_integer (fun vs H Q E h => spD_len (n := 1) (fun _ => rfl) h) (fun cdv A outer s H vs Q E hr h => ?_)
  obtain ⟨i, B0, F0, rt, go⟩ := enterD (N := ["value"]) h
  refine ⟨_, (pss_one (ps_ret (pe_and (pe_callB call_isi (by rfl) T.n_isinstance (by decide +kernel) (pa_cons (pv 0) (pa_cons (pe_bltn (v := .ty "int") (u := .type "int") (by rfl) T.n_int (by decide +kernel) rfl) pa_nil))) (pe_one (pe_not (pe_callB call_isi (by rfl) T.n_isinstance (by decide +kernel) (pa_cons (pv 0) (pa_cons (pe_bltn (v := .ty "bool") (u := .type "bool") (by rfl) T.n_bool (by decide +kernel) rfl) pa_nil)))))))), go _ ?_⟩
  refine go_retI (c := cB K (isInt i)) ?_ (rt _ (by simp))
  exact ((ev_andV (ev_isi (ev_rdD rfl) (k_int i)) fun _ => ev_notV (ev_isi (ev_rdD rfl) (k_bool i)))).eq (congrArg PyData.bool (isInt_eq i))
theorem isTup_of {d : PyData} (h : isTup d = true) : ∃ ds, d = .tuple ds := by
  cases d <;> first | exact ⟨_, rfl⟩ | cases h
theorem sc_is_formula : FnScope ["value", "one"] ["value"] (defScope (topS 10)) := ⟨rfl, rfl, rfl, by decide +kernel, rfl, by decide +kernel, by decide +kernel⟩
theorem ok_is_formula (T : Txt K mg a d) : FnOk P w K mg base CX0 2 a.is_formula d.is_formula ["value"] (spD K (fun i : PyData => [i]) (fun i => .bool (isForm i))) := by
  refine T.F_is_formula.ok sc_is_formula (fun vs H Q E h => spD_len (n := 1) (fun _ => rfl) h) (fun cdv A outer s H vs Q E hr h => ?_)
  obtain ⟨i, B0, F0, rt, go⟩ := enterD (N := ["value", "one"]) h
  refine ⟨_, (pss_one (ps_ret (pe_and (pe_callB call_isi (by rfl) T.n_isinstance (by decide +kernel) (pa_cons (pv 0) (pa_cons (pe_bltn (v := .ty "tuple") (u := .type "tuple") (by rfl) T.n_tuple (by decide +kernel) rfl) pa_nil))) (pe_and (pe_cmpR op_le (pe_callB call_len_seq (by rfl) T.n_len PySem.boot_len (pa_cons (pv 0) pa_nil)) (pe_glob rfl T.c_MOST_PLACES.choose_spec.1 T.c_MOST_PLACES.choose_spec.2) (nomark _)) (pe_one (pe_callB (cr_all rfl) (by rfl) T.n_all (by decide +kernel) (pa_cons (pe_lc (own := [("one", 1)]) (g := (gName 1)) rfl sc_is_formula.nd (pi_tup (pv 0)) (blkOk_by (own := [("one", 1)]) (N := ["value", "one"]) (sc := defScope (topS 10)) (by decide +kernel)) (fun _ _ _ _ _ => (pg_name (i := 1) sc_is_formula.nd rfl (Or.inl rfl))) (fun _ _ _ _ _ => pts_nil) (fun _ _ _ _ _ => (pe_call (ok_is_integer T) (hr.mono (by decide)) rfl T.m_is_integer T.F_is_integer.kp T.b_is_integer .nil pass0 (pa_cons (pv 1) pa_nil)))) pa_nil))))))), go _ ?_⟩
  refine go_retI (c := cB K (isForm i)) ?_ (rt _ (by simp))
  refine (ev_andV (b := isForm i) (ev_isi (ev_rdD rfl) (k_tuple i)) (fun ht => ?_)).bo (by cases i <;> rfl)
  obtain ⟨ds, rfl⟩ := isTup_of ht
  refine (ev_andV (a := decide (ds.length ≤ 61)) (b := ds.all isInt) ((ev_cmp2 (ev_lenT (ev_var rfl)) ev_int).bo (by simp; omega)) fun hl => ?_).bo rfl
  have hl' : ds.length ≤ 61 := of_decide_eq_true hl
  refine (ev_all (bs := ds.map isInt) (Ev.rd (Ev.freeze (Ev.own (ev_lc1A ds (fun d => d) (fun d => .bool (isInt d)) (ei_tup (ev_var rfl)) rfl (fun i c h => h) rfl (by omega) fun x _ => ?_) ?_)))).bo (by rw [List.all_map]; rfl)
  · exact ev_call x (ea_cons (ev_var rfl) ea_nil)
  · rw [List.map_map]
    rfl
theorem sc_trimmed : FnScope ["row", "end"] ["row"] (defScope (topS 12)) := ⟨rfl, rfl, rfl, by decide +kernel, rfl, by decide +kernel, by decide +kernel⟩
theorem ok_trimmedT (T : Txt K mg a d) : FnOk P w K mg base CX0 1 a.trimmed d.trimmed ["row"] (spD K (fun i : List Int => [tI i]) (fun i => tI (trimI i))) := by
  refine T.F_trimmed.ok sc_trimmed (fun vs H Q E h => spD_len (n := 1) (fun _ => rfl) h) (fun cdv A outer s H vs Q E hr h => ?_)
  obtain ⟨i, B0, F0, rt, go⟩ := enterD (N := ["row", "end"]) h
  refine ⟨_, (pss_cons (ps_set (i := 1) sc_trimmed.nd rfl (Or.inl rfl) (pe_callB call_len_seq (by rfl) T.n_len PySem.boot_len (pa_cons (pv 0) pa_nil)))
    (pss_cons (ps_while PassesOwn.never (PW.pt (pw_and (pt_cmpR op_gt (pv 1) pe_int (nomark _)) (pw_and1 (pt_cmpR (op_eqD hr.units) (pe_ix ix_tup (pv 0) (pe_op op_sub (pv 1) pe_int) (fun _ _ => rfl)) pe_int (nomark _)))))
      (pss_one (ps_aug (i := 1) sc_trimmed.nd rfl (Or.inl rfl) pe_int ip_sub)))
    (pss_one (ps_ret (pe_callTy call_tuple_of (by rfl) T.n_tuple (by decide +kernel) (pa_cons (pe_slice sl_tupA (pv 0) po_none (po_some (pv 1))) pa_nil)))))), go _ ?_⟩
  refine (gs_set ((ev_lenT (ev_var rfl)).il (m := (i.length : Int)) (by rw [List.length_map])) ?_)
  refine (gs_while (W := fun m cs' => m ≤ i.length ∧ cs' = [cD K (tI i), cI K (m : Int)] ∧ ∀ k, m ≤ k → cf i k = 0) i.length ⟨Nat.le_refl _, rfl, fun k hk => cf_ge hk⟩ ?_)
  rintro m cs' ⟨hm, rfl, h0⟩
  refine ⟨decide (0 < m) && decide (cf i (m - 1) = 0), ?_, fun hb => ?_, fun hb => ?_⟩
  · refine et_and ((et_test (ev_cmp2 (ev_var rfl) ev_int)).imp fun b e => by rw [e]; simp) fun hp => et_test (K := K) ?_
    have hp' : 0 < m := of_decide_eq_true hp
    refine ev_eqI (ev_ixT (i := ((m - 1 : Nat) : Int)) (ev_var rfl) ((ev_int20 (ev_var rfl) ev_int).il (by omega)) (atI_int (cf_of_lt (by omega)))) ev_int
  · rw [Bool.and_eq_true] at hb
    have h1 : 0 < m := of_decide_eq_true hb.1
    have h2 : cf i (m - 1) = 0 := of_decide_eq_true hb.2
    refine go_aug (f := fun i j => i - j) rfl ev_int (go_mid ⟨m - 1, by omega, by omega, ?_, fun k hk => ?_⟩)
    · show [cD K (tI i), cI K ((m : Int) - 1)] = _
      rw [show (m : Int) - 1 = ((m - 1 : Nat) : Int) by omega]
    · by_cases e : k = m - 1
      · rw [e]; exact h2
      · exact h0 k (by omega)
  · refine go_retI (ev_tupleT (ev_slT (ev_var rfl) eo_none (eo_some (ev_var rfl)))) ?_
    rw [cutD_to (by rw [List.length_map]; exact hm)]
    have e : (i.map PyData.int).take m = (trimI i).map PyData.int := by
      rw [← List.map_take, take_trim hm h0]
      by_cases h1 : m = 0
      · exact .inl h1
      · refine .inr fun h2 => ?_
        rw [decide_eq_true (show 0 < m by omega), decide_eq_true h2] at hb
        cases hb
    rw [e]
    exact rt _ (by simp)
theorem ok_trimmedL (T : Txt K mg a d) : FnOk P w K mg base CX0 1 a.trimmed d.trimmed ["row"] (spD K (fun i : List Int => [lI i]) (fun i => tI (trimI i))) := by
  refine T.F_trimmed.ok sc_trimmed (fun vs H Q E h => spD_len (n := 1) (fun _ => rfl) h) (fun cdv A outer s H vs Q E hr h => ?_)
  obtain ⟨i, B0, F0, rt, go⟩ := enterD (N := ["row", "end"]) h
  refine ⟨_, (pss_cons (ps_set (i := 1) sc_trimmed.nd rfl (Or.inl rfl) (pe_callB call_len_seq (by rfl) T.n_len PySem.boot_len (pa_cons (pv 0) pa_nil)))
    (pss_cons (ps_while PassesOwn.never (PW.pt (pw_and (pt_cmpR op_gt (pv 1) pe_int (nomark _)) (pw_and1 (pt_cmpR (op_eqD hr.units) (pe_ix ix_list (pv 0) (pe_op op_sub (pv 1) pe_int) (fun _ _ => rfl)) pe_int (nomark _)))))
      (pss_one (ps_aug (i := 1) sc_trimmed.nd rfl (Or.inl rfl) pe_int ip_sub)))
    (pss_one (ps_ret (pe_callTy call_tuple_of (by rfl) T.n_tuple (by decide +kernel) (pa_cons (pe_slice sl_list (pv 0) po_none (po_some (pv 1))) pa_nil)))))), go _ ?_⟩
  refine (gs_set ((ev_lenL (ds := i.map .int) (ev_rdD rfl)).il (m := (i.length : Int)) (by rw [List.length_map])) ?_)
  refine (gs_while (W := fun m cs' => m ≤ i.length ∧ cs' = [cD K (lI i), cI K (m : Int)] ∧ ∀ k, m ≤ k → cf i k = 0) i.length ⟨Nat.le_refl _, rfl, fun k hk => cf_ge hk⟩ ?_)
  rintro m cs' ⟨hm, rfl, h0⟩
  refine ⟨decide (0 < m) && decide (cf i (m - 1) = 0), ?_, fun hb => ?_, fun hb => ?_⟩
  · refine et_and ((et_test (ev_cmp2 (ev_var rfl) ev_int)).imp fun b e => by rw [e]; simp) fun hp => et_test (K := K) ?_
    have hp' : 0 < m := of_decide_eq_true hp
    refine ev_eqI (ev_ixL (i := ((m - 1 : Nat) : Int)) (ds := i.map .int) (ev_rdD rfl) ((ev_int20 (ev_var rfl) ev_int).il (by omega)) (atI_int (cf_of_lt (by omega)))) ev_int
  · rw [Bool.and_eq_true] at hb
    have h1 : 0 < m := of_decide_eq_true hb.1
    have h2 : cf i (m - 1) = 0 := of_decide_eq_true hb.2
    refine go_aug (f := fun i j => i - j) rfl ev_int (go_mid ⟨m - 1, by omega, by omega, ?_, fun k hk => ?_⟩)
    · show [cD K (lI i), cI K ((m : Int) - 1)] = _
      rw [show (m : Int) - 1 = ((m - 1 : Nat) : Int) by omega]
    · by_cases e : k = m - 1
      · rw [e]; exact h2
      · exact h0 k (by omega)
  · refine go_retI (ev_tupleL (ev_slL (ds := i.map .int) (ev_rdD rfl) eo_none (eo_some (ev_var rfl))).freeze.rd) ?_
    rw [cutD_to (by rw [List.length_map]; exact hm)]
    have e : (i.map PyData.int).take m = (trimI i).map PyData.int := by
      rw [← List.map_take, take_trim hm h0]
      by_cases h1 : m = 0
      · exact .inl h1
      · refine .inr fun h2 => ?_
        rw [decide_eq_true (show 0 < m by omega), decide_eq_true h2] at hb
        cases hb
    rw [e]
    exact rt _ (by simp)
theorem sc_checked_formulas : FnScope ["formulas", "at", "formula"] ["formulas"] (defScope (topS 11)) := ⟨rfl, rfl, rfl, by decide +kernel, rfl, by decide +kernel, by decide +kernel⟩
theorem ok_checked_formulas (T : Txt K mg a d) : FnR P w K mg base CX0 3 a.checked_formulas (spD K (fun i : {fs : List PyData // fs.length ≤ 100 ∧ fs.all isForm = true} => i.1) (fun _ => .none)) := by
  obtain ⟨oc, od, kV, doc, pm, an, cdv, ct, osl, eqfd, lk, hcd⟩ := T.F_checked_formulas.ex
  refine (fn_star (k := 2) (N := ["formulas", "at", "formula"]) (ps := []) (pv := "formulas") (eqfd ▸ lk) hcd sc_checked_formulas cxUp_none (fun us rest hl => ?_) (sp := spD K (fun i : {fs : List PyData // fs.length ≤ 100 ∧ fs.all isForm = true} => [.tuple i.1]) (fun _ => .none)) (fun A outer s H vs Q E hr h => ?_)).imp fun vs H Q E h => spD_star (fun i => i.2.1) h
  · match us, rest, hl with
    | [], [], _ => rfl
    | [], _ :: _, _ => rfl
  · obtain ⟨i, B0, F0, rt, go⟩ := enterD (N := ["formulas", "at", "formula"]) h
    refine nox_ex ⟨_, (pss_one (ps_for PassesOwn.never rfl (pi_enumM true (by rfl) T.n_enumerate (pa_cons (pv 0) pa_nil)) (pg_tup rfl (pgs_cons (pg_name (i := 1) sc_checked_formulas.nd rfl (Or.inl rfl)) (pgs_cons (pg_name (i := 2) sc_checked_formulas.nd rfl (Or.inl rfl)) pgs_nil)))
      (pss_one (ps_if (pt_not (pt_val (pe_call (ok_is_formula T) (hr.mono (by decide)) rfl T.m_is_formula T.F_is_formula.kp T.b_is_formula .nil pass0 (pa_cons (pv 2) pa_nil))))
        (pss_one ps_never)
        pss_nil)))), go _ ?_⟩
    refine go_for (js := [1, 2]) (ei_enum (b := true) (ds := i.1) (ev_var rfl)) (fun n cs' => ∃ c1 c2, cs' = [cD K (.tuple i.1), c1, c2]) ⟨cNo, cNo, rfl⟩ ?_ ?_
    · rintro B1 sB n c cs' hn ⟨x, hx, rfl⟩ ⟨c1, c2, rfl⟩
      have hf : isForm x = true := List.all_eq_true.mp i.2.2 x (List.mem_of_getElem? hx)
      exact ⟨_, tg_pair, go_ifF (et_is (et_not (et_B (ev_call x (ea_cons (ev_var rfl) ea_nil)))) (by rw [hf]; rfl)) (go_nx (go_mid ⟨_, _, rfl⟩))⟩
    · rintro cs' ⟨c1, c2, rfl⟩
      exact go_end (rt _ (by simp))
theorem sc_fitting : FnScope ["row", "left"] ["row"] (defScope (topS 13)) := ⟨rfl, rfl, rfl, by decide +kernel, rfl, by decide +kernel, by decide +kernel⟩
theorem ok_fitting (T : Txt K mg a d) : FnOk P w K mg base CX0 2 a.fitting d.fitting ["row"] (spP K (fun i : List Int => (trimI i).length ≤ 61) (fun i => [tI i]) (fun i => tI (trimI i))) := by
  refine T.F_fitting.ok sc_fitting (fun vs H Q E h => spD_len (n := 1) (fun _ => rfl) h) (fun cdv A outer s H vs Q E hr h => ?_)
  obtain ⟨i, B0, F0, rt, go⟩ := enterD (N := ["row", "left"]) h
  refine ⟨_, (pss_cons (ps_set (i := 1) sc_fitting.nd rfl (Or.inl rfl) (pe_call (ok_trimmedT T) (hr.mono (by decide)) rfl T.m_trimmed T.F_trimmed.kp T.b_trimmed .nil pass0 (pa_cons (pv 0) pa_nil)))
    (pss_cons (ps_if (pt_cmpR op_gt (pe_callB call_len_seq (by rfl) T.n_len PySem.boot_len (pa_cons (pv 1) pa_nil)) (pe_glob rfl T.c_MOST_PLACES.choose_spec.1 T.c_MOST_PLACES.choose_spec.2) (nomark _))
      (pss_one ps_never)
      pss_nil)
    (pss_one (ps_ret (pv 1))))), go _ ?_⟩
  obtain ⟨i, hi⟩ := i
  refine (gs_set (ev_call i (ea_cons (ev_var rfl) ea_nil)) ?_)
  refine gs_skip (et_test ((ev_cmp2 (ev_lenT (ds := (trimI i).map .int) (ev_var rfl)) (ev_int (n := 61))).bo ?_)) ?_
  · simp
    omega
  · exact go_retI (ev_var rfl) (rt _ (by simp))
def degD (l : List Int) : PyData := if trimI l = [] then .none else .int ((trimI l).length - 1 : Int)
theorem forms1 {a : List Int} (h : a.length ≤ 61) : ([tI a].length ≤ 100 ∧ [tI a].all isForm = true) := ⟨by simp, by simp [form_ints h]⟩
theorem forms2 {a b : List Int} (h : a.length ≤ 61) (h2 : b.length ≤ 61) : ([tI a, tI b].length ≤ 100 ∧ [tI a, tI b].all isForm = true) := ⟨by simp, by simp [form_ints h, form_ints h2]⟩
end
end Y
namespace Y
open PySem L2 Z M StX
section
variable {P : Program} {w : World} {K : PySem.W.Frag} {mg : Str → Option Value} {base : Heap} {a : Ad} {d : Fd}
theorem mw {i j : Int} {a b : Nat} (ha : i.natAbs < 2 ^ a) (hb : j.natAbs < 2 ^ b) (h : a + b ≤ 900000) : CMulW i j := wide_mul (a := a + 1) (b := b + 1) (Nat.lt_of_lt_of_le ha (Nat.pow_le_pow_right (by omega) (by omega))) (Nat.lt_of_lt_of_le hb (Nat.pow_le_pow_right (by omega) (by omega))) (by omega) (by omega) (by omega)
theorem bd_cf {b : Nat} {l : List Int} (h : Bd b l) (k : Nat) : (cf l k).natAbs < 2 ^ b := by
  by_cases hk : k < l.length
  · exact h _ (List.mem_of_getElem? (cf_of_lt hk))
  · rw [cf_ge (by omega)]
    exact Nat.pow_pos (by omega)
theorem enum_ints {K : PySem.W.Frag} {ns : List Int} {i : Nat} {c : Cell} (h : ∃ d, (ns.map PyData.int)[i]? = some d ∧ c = cD K (.tuple [.int i, d])) : i < ns.length ∧ c = cD K (.tuple [.int i, .int (cf ns i)]) := by
  obtain ⟨d, e1, e2⟩ := h
  have hi : i < ns.length := by
    have := (List.getElem?_eq_some_iff.mp e1).1
    rwa [List.length_map] at this
  rw [List.getElem?_map, cf_of_lt hi] at e1
  cases e1
  exact ⟨hi, e2⟩
theorem zeros_flat (n : Nat) : (List.replicate n [PyData.int 0]).flatten = (List.replicate n (0 : Int)).map PyData.int := by
  induction n with
  | zero => rfl
  | succ n ih =>
    rw [List.replicate_succ, List.flatten_cons, ih, List.replicate_succ]
    rfl
theorem rt_eq {K : PySem.W.Frag} {B0 F0 : Hp} {cs : List Cell} {d d' : PyData} {q : VK} (h : RtOk B0 F0 (cD K d :: cs) q) (e : d = d') : RtOk B0 F0 (cD K d' :: cs) q := e ▸ h
theorem max0 (x y : Nat) : (max (0 : Int) ((x : Int) - (y : Int))).toNat = x - y := by omega
/-- bits of a number, at most -/
def BB : Nat := 400000
theorem mwB {i j : Int} (ha : i.natAbs < 2 ^ BB) (hb : j.natAbs < 2 ^ BB) : CMulW i j := mw ha hb (by decide)
/-- one + number * other -/
structure RS where
  a : List Int
  b : List Int
  n : Int
def RS.ok (i : RS) : Prop := i.a.length ≤ 1000 ∧ i.b.length ≤ 1000 ∧ i.n.natAbs < 2 ^ BB ∧ Bd BB i.b
theorem RS.is {x y : List Int} {n : Int} (h1 : x.length ≤ 1000) (h2 : y.length ≤ 1000) (h3 : n.natAbs < 2 ^ BB) (h4 : Bd BB y) : RS.ok (RS.mk x y n) := ⟨h1, h2, h3, h4⟩
theorem sc_row_sum : FnScope ["one", "other", "number", "found", "at", "entry"] ["one", "other", "number"] (defScope (topS 14)) := ⟨rfl, rfl, rfl, by decide +kernel, rfl, by decide +kernel, by decide +kernel⟩
theorem ok_row_sum (T : Txt K mg a d) : FnOk P w K mg base CX0 2 a.row_sum d.row_sum ["one", "other", "number"] (spP K RS.ok (fun i => [tI i.a, tI i.b, .int i.n]) (fun i => tI (addI i.a i.b i.n))) := by
  refine T.F_row_sum.ok sc_row_sum (fun vs H Q E h => spD_len (n := 3) (fun _ => rfl) h) (fun cdv A outer s H vs Q E hr h => ?_)
  obtain ⟨i, B0, F0, rt, go⟩ := enterD (N := ["one", "other", "number", "found", "at", "entry"]) h
  refine ⟨_, (pss_cons (ps_set (i := 3) sc_row_sum.nd rfl (Or.inl rfl) (pe_op op_cat (pe_callTy call_list_of (by rfl) T.n_list (by decide +kernel) (pa_cons (pv 0) pa_nil)) (pe_op op_rep (pe_lst (pa_cons pe_int pa_nil)) (pe_callB (call_max2 rfl) (by rfl) T.n_max (by decide +kernel) (pa_cons pe_int (pa_cons (pe_op op_sub (pe_callB call_len_seq (by rfl) T.n_len PySem.boot_len (pa_cons (pv 1) pa_nil)) (pe_callB call_len_seq (by rfl) T.n_len PySem.boot_len (pa_cons (pv 0) pa_nil))) pa_nil))))))
    (pss_cons (ps_for PassesOwn.never rfl (pi_enumM true (by rfl) T.n_enumerate (pa_cons (pv 1) pa_nil)) (pg_tup rfl (pgs_cons (pg_name (i := 4) sc_row_sum.nd rfl (Or.inl rfl)) (pgs_cons (pg_name (i := 5) sc_row_sum.nd rfl (Or.inl rfl)) pgs_nil)))
      (pss_one (ps_augS (pv 3) (pv 4) get_list (pe_op op_mulW (pv 2) (pv 5)) ip_add set_list)))
    (pss_one (ps_ret (pe_call (ok_trimmedL T) (hr.mono (by decide)) rfl T.m_trimmed T.F_trimmed.kp T.b_trimmed .nil pass0 (pa_cons (pv 3) pa_nil)))))), go _ ?_⟩
  obtain ⟨⟨x, y, n⟩, hx, hy, hn, hb⟩ := i
  have hx : x.length ≤ 1000 := hx
  have hy : y.length ≤ 1000 := hy
  refine gs_setO (ds := (padd x y).map .int) (Ev.own (ev_cat (ev_listT (ev_var rfl)) (ev_rep (ev_lst (ds := [.int 0]) (ea_cons ev_int ea_nil) (by decide)) (ev_max2 ev_int (ev_int20 (ev_lenT (ev_var rfl)) (ev_lenT (ev_var rfl)))) ?_ ?_) ?_) ?_) fun l => ?_
  · try dsimp only
    simp only [List.length_map]
    omega
  · try dsimp only
    simp only [List.length_map, List.length_singleton]
    omega
  · rw [zeros_flat, List.length_map, List.length_map, List.length_replicate]
    try dsimp only
    simp only [List.length_map]
    omega
  · rw [zeros_flat, List.length_map, List.length_map, max0, ← List.map_append]
    rfl
  · have lp : y.length ≤ (padd x y).length := by rw [len_padd]; omega
    have lp2 : (padd x y).length ≤ 1000 := by rw [len_padd]; exact Nat.max_le.mpr ⟨hx, hy⟩
    refine gs_for (js := [4, 5]) (ei_enum (b := true) (ds := y.map .int) (ev_var rfl)) (fun i cs' => ∃ c4 c5, cs' = [cD K (tI x), cD K (tI y), cI K n, cOwn K l ((addRaw n (padd x y) (y.take i)).map .int), c4, c5]) ⟨cNo, cNo, ?_⟩ ?_ ?_
    · rw [List.take_zero]
      have e : addRaw n (padd x y) [] = padd x y := by cases padd x y <;> rfl
      rw [e]
      rfl
    · rintro B1 sB i c cs' hi hc ⟨c4, c5, rfl⟩
      obtain ⟨hi', rfl⟩ := enum_ints hc
      refine ⟨_, tg_pair, go_storeAdd (f := fun i j => i + j) (i := 3) (j := i) (a := cf (padd x y) i) (b := n * cf y i) rfl (ev_var rfl) (by omega) ?_ (ev_int2 (ev_var rfl) (ev_var rfl) (mwB hn (bd_cf hb i))) (go_mid ⟨cI K (i : Int), cI K (cf y i), ?_⟩)⟩
      · rw [List.getElem?_map, add_get hi' lp]
        rfl
      · rw [← add_step hi' lp, List.map_set]
        rfl
    · rintro cs' ⟨c4, c5, rfl⟩
      rw [List.length_map]
      refine go_freeze (i := 3) rfl ?_
      refine go_retI (ev_call (addRaw n (padd x y) (y.take y.length)) (ea_cons (ev_var rfl) ea_nil)) ?_
      rw [add_done]
      exact rt _ (by simp)
/-- one * other -/
structure RP where
  a : List Int
  b : List Int
def RP.ok (i : RP) : Prop := i.a.length ≤ 1000 ∧ i.b.length ≤ 1000 ∧ Bd BB i.a ∧ Bd BB i.b
theorem RP.is {x y : List Int} (h1 : x.length ≤ 1000) (h2 : y.length ≤ 1000) (h3 : Bd BB x) (h4 : Bd BB y) : RP.ok (RP.mk x y) := ⟨h1, h2, h3, h4⟩
theorem mul0 (x : Int) : 0 * x = 0 := Int.zero_mul x
theorem sc_row_product : FnScope ["one", "other", "found", "at", "a", "place", "b"] ["one", "other"] (defScope (topS 15)) := ⟨rfl, rfl, rfl, by decide +kernel, rfl, by decide +kernel, by decide +kernel⟩
theorem ok_row_product (T : Txt K mg a d) : FnOk P w K mg base CX0 2 a.row_product d.row_product ["one", "other"] (spP K RP.ok (fun i => [tI i.a, tI i.b]) (fun i => tI (mulI i.a i.b))) := by
  refine T.F_row_product.ok sc_row_product (fun vs H Q E h => spD_len (n := 2) (fun _ => rfl) h) (fun cdv A outer s H vs Q E hr h => ?_)
  obtain ⟨i, B0, F0, rt, go⟩ := enterD (N := ["one", "other", "found", "at", "a", "place", "b"]) h
  refine ⟨_, (pss_cons (ps_if (PW.pt (pw_or (pt_cmpR (op_eqD hr.units) (pe_call (ok_trimmedT T) (hr.mono (by decide)) rfl T.m_trimmed T.F_trimmed.kp T.b_trimmed .nil pass0 (pa_cons (pv 0) pa_nil)) (pe_tup pa_nil) (nomark _)) (pw_or1 (pt_cmpR (op_eqD hr.units) (pe_call (ok_trimmedT T) (hr.mono (by decide)) rfl T.m_trimmed T.F_trimmed.kp T.b_trimmed .nil pass0 (pa_cons (pv 1) pa_nil)) (pe_tup pa_nil) (nomark _)))))
      (pss_one (ps_ret (pe_tup pa_nil)))
      pss_nil)
    (pss_cons (ps_set (i := 2) sc_row_product.nd rfl (Or.inl rfl) (pe_op op_rep (pe_lst (pa_cons pe_int pa_nil)) (pe_op op_sub (pe_op op_add (pe_callB call_len_seq (by rfl) T.n_len PySem.boot_len (pa_cons (pv 0) pa_nil)) (pe_callB call_len_seq (by rfl) T.n_len PySem.boot_len (pa_cons (pv 1) pa_nil))) pe_int)))
    (pss_cons (ps_for PassesOwn.never rfl (pi_enumM true (by rfl) T.n_enumerate (pa_cons (pv 0) pa_nil)) (pg_tup rfl (pgs_cons (pg_name (i := 3) sc_row_product.nd rfl (Or.inl rfl)) (pgs_cons (pg_name (i := 4) sc_row_product.nd rfl (Or.inl rfl)) pgs_nil)))
      (pss_one (ps_if (pt_cmpR (op_neD hr.units) (pv 4) pe_int (nomark _))
        (pss_one (ps_for PassesOwn.never rfl (pi_enumM true (by rfl) T.n_enumerate (pa_cons (pv 1) pa_nil)) (pg_tup rfl (pgs_cons (pg_name (i := 5) sc_row_product.nd rfl (Or.inl rfl)) (pgs_cons (pg_name (i := 6) sc_row_product.nd rfl (Or.inl rfl)) pgs_nil)))
          (pss_one (ps_augS (pv 2) (pe_op op_add (pv 3) (pv 5)) get_list (pe_op op_mulW (pv 4) (pv 6)) ip_add set_list))))
        pss_nil)))
    (pss_one (ps_ret (pe_call (ok_trimmedL T) (hr.mono (by decide)) rfl T.m_trimmed T.F_trimmed.kp T.b_trimmed .nil pass0 (pa_cons (pv 2) pa_nil))))))), go _ ?_⟩
  obtain ⟨⟨x, y⟩, hx, hy, ha, hb⟩ := i
  have hx : x.length ≤ 1000 := hx
  have hy : y.length ≤ 1000 := hy
  refine gs_ifE (b := decide (trimI x = []) || decide (trimI y = [])) ?_ (fun h => ?_) (fun h => ?_)
  · exact et_or (et_test (ev_eqNil (ev_call x (ea_cons (ev_var rfl) ea_nil)).rd (ev_tup (ds := []) ea_nil (by decide)))) fun _ => et_test (ev_eqNil (ev_call y (ea_cons (ev_var rfl) ea_nil)).rd (ev_tup (ds := []) ea_nil (by decide)))
  · refine go_retI (ev_tup (K := K) (ds := []) ea_nil (by decide)) ?_
    have e : mulI x y = [] := mulI_nil_of (by simpa using h)
    exact rt_eq (d := tI (mulI x y)) (rt _ (by simp)) (by rw [e]; rfl)
  · have nx : x ≠ [] := ne_of_trim (by simp at h; exact h.1)
    have ny : y ≠ [] := ne_of_trim (by simp at h; exact h.2)
    have lx := List.length_pos_iff.mpr nx
    have ly := List.length_pos_iff.mpr ny
    refine gs_setO (ds := (List.replicate (x.length + y.length - 1) 0).map .int) (Ev.own (ev_rep (ev_lst (ds := [.int 0]) (ea_cons ev_int ea_nil) (by decide)) (ev_int20 (ev_int20 (ev_lenT (ev_var rfl)) (ev_lenT (ev_var rfl))) ev_int) ?_ ?_) ?_) fun l => ?_
    · try dsimp only
      simp only [List.length_map]
      omega
    · try dsimp only
      simp only [List.length_map, List.length_singleton]
      omega
    · rw [zeros_flat, List.length_map, List.length_map]
      congr 2
      show ((x.length : Int) + (y.length : Int) - 1).toNat = _
      omega
    · refine gs_for (js := [3, 4]) (ei_enum (b := true) (ds := x.map .int) (ev_var rfl)) (fun i cs' => ∃ R c3 c4 c5 c6, cs' = [cD K (tI x), cD K (tI y), cOwn K l (R.map .int), c3, c4, c5, c6] ∧ R.length = x.length + y.length - 1 ∧ ∀ k, k < R.length → cf R k = cf (mulRaw (x.take i) y) k) ⟨_, cNo, cNo, cNo, cNo, rfl, by simp, fun k hk => ?_⟩ ?_ ?_
      · rw [List.take_zero]
        show cf _ k = cf [] k
        rw [cf_nil]
        unfold cf
        rw [List.getD_eq_getElem?_getD, List.getElem?_replicate]
        split <;> rfl
      · rintro B1 sB i c cs' hi hc ⟨R, c3, c4, c5, c6, rfl, lR, hR⟩
        obtain ⟨hi', rfl⟩ := enum_ints hc
        refine ⟨_, tg_pair, go_if (et_test (ev_neI (ev_var rfl) ev_int)) (fun hz => ?_) (fun hz => ?_)⟩
        · refine go_for (js := [5, 6]) (ei_enum (b := true) (ds := y.map .int) (ev_var rfl)) (fun p cs' => ∃ S c5 c6, cs' = [cD K (tI x), cD K (tI y), cOwn K l (S.map .int), cI K (i : Int), cI K (cf x i), c5, c6] ∧ S.length = x.length + y.length - 1 ∧ ∀ k, k < S.length → cf S k = cf R k + cf x i * (if k < i then 0 else cf (y.take p) (k - i))) ⟨R, _, _, rfl, lR, fun k hk => ?_⟩ ?_ ?_
          · rw [List.take_zero]
            have e : (if k < i then (0 : Int) else cf [] (k - i)) = 0 := by split <;> simp [cf_nil]
            rw [e, Int.mul_zero, Int.add_zero]
          · rintro B2 sB2 p c cs' hp hc ⟨S, c5, c6, rfl, lS, hS⟩
            obtain ⟨hp', rfl⟩ := enum_ints hc
            have hlt : i + p < S.length := by rw [lS]; omega
            refine ⟨_, tg_pair, go_storeAdd (f := fun i j => i + j) (i := 2) (j := i + p) (a := cf S (i + p)) (b := cf x i * cf y p) rfl ((ev_int20 (ev_var rfl) (ev_var rfl)).il rfl) (by omega) ?_ (ev_int2 (ev_var rfl) (ev_var rfl) (mwB (bd_cf ha i) (bd_cf hb p))) (go_mid ⟨S.set (i + p) (cf S (i + p) + cf x i * cf y p), cI K (p : Int), cI K (cf y p), ?_, ?_, ?_⟩)⟩
            · rw [List.getElem?_map, cf_of_lt hlt]
              rfl
            · rw [List.map_set]
              rfl
            · rw [List.length_set, lS]
            · intro k hk
              rw [List.length_set] at hk
              rw [cf_set hlt]
              by_cases e : k = i + p
              · subst e
                rw [if_pos rfl, hS _ hlt, if_neg (by omega), if_neg (by omega), Nat.add_sub_cancel_left, cf_take, cf_take, if_neg (by omega), if_pos (by omega), Int.mul_zero, Int.add_zero]
              · rw [if_neg e, hS k hk]
                congr 2
                by_cases e2 : k < i
                · rw [if_pos e2, if_pos e2]
                · rw [if_neg e2, if_neg e2, cf_take, cf_take]
                  by_cases e3 : k - i < p
                  · rw [if_pos e3, if_pos (by omega)]
                  · rw [if_neg e3, if_neg (by omega)]
          · rintro cs' ⟨S, c5, c6, rfl, lS, hS⟩
            refine go_mid ⟨S, _, _, _, _, rfl, lS, fun k hk => ?_⟩
            rw [hS k hk, hR k (by omega), mul_step, List.length_map, List.take_length]
        · refine go_nx (go_mid ⟨R, _, _, _, _, rfl, lR, fun k hk => ?_⟩)
          have z : cf x i = 0 := by simpa using hz
          rw [hR k hk, mul_step, z, mul0, Int.add_zero]
      · rintro cs' ⟨R, c3, c4, c5, c6, rfl, lR, hR⟩
        rw [List.length_map] at hR
        refine go_freeze (i := 2) rfl ?_
        refine go_retI (ev_call R (ea_cons (ev_var rfl) ea_nil)) ?_
        rw [mul_done nx ny lR hR]
        exact rt _ (by simp)
theorem one_big : (1 : Int).natAbs < 2 ^ BB := by
  show 1 < 2 ^ BB
  exact Nat.one_lt_two_pow (by decide)
def dgN (l : List Int) : Nat := (trimI l).length - 1
structure BH where
  a : List Int
  b : List Int
/-- the bits that do, at each stage -/
def BH.ok (i : BH) : Prop := i.a.length ≤ 61 ∧ i.b.length ≤ 61 ∧ dgN i.a * dgN i.b ≤ 60 ∧ ∃ p q : Nat, Bd p i.a ∧ Bd q i.b ∧ 64 * (q + 64) + p ≤ BB
theorem degD_none {l : List Int} (h : isNon (degD l) = false) : degD l = .int (dgN l : Int) ∧ trimI l ≠ [] := by
  unfold degD at h ⊢
  by_cases e : trimI l = []
  · rw [if_pos e] at h
    cases h
  · rw [if_neg e]
    have := List.length_pos_iff.mpr e
    refine ⟨?_, e⟩
    unfold dgN
    congr 1
    omega
theorem compI_snoc_trim (o : List Int) : ∀ l : List Int, compI (trimI l) o = compI l o
  | [] => rfl
  | c :: l => tr_of_ev (tr_compI o _) (tr_compI o _) fun x => by rw [ev_compI, ev_compI, ev_trim]
/-- the bits of what is found -/
theorem bd_compI {p q : Nat} {o : List Int} (hq : Bd q o) (ho : o.length ≤ 61) (N : Nat) : ∀ l : List Int, (∀ n, n ≤ l.length → (compI (l.drop n) o).length ≤ 61) → Bd p l → Bd (l.length * (q + 64) + p) (compI l o)
  | [], _, _ => Bd.nil
  | c :: l, hl, hp => by
    have ih := bd_compI hq ho N l (fun n hn => hl (n + 1) (by simpa using hn)) fun z hz => hp z (List.mem_cons_of_mem _ hz)
    have l1 : (compI l o).length ≤ 61 := hl 1 (by simp)
    show Bd _ (addI (mulI (compI l o) o) [c] 1)
    have b1 : Bd (l.length * (q + 64) + p + q + 61) (mulI (compI l o) o) := (Bd.mulI ih hq).mono (by omega)
    have b2 : Bd p [c] := Bd.one (hp c (List.mem_cons_self ..))
    refine (Bd.addI (n := 1) (d := 1) b1 b2 (by decide)).mono ?_
    rw [List.length_cons, Nat.add_mul]
    generalize l.length * (q + 64) = w
    omega
/-- what is a clock -/
def isClk : PyData → Bool
  | .int n => decide (1 ≤ n) && decide (n ≤ (10 : Int) ^ 40)
  | _ => false
theorem clk_of {m : Nat} (h : 0 < m) (h2 : m ≤ TOP) : isClk (.int m) = true := by
  have q : (m : Int) ≤ (10 : Int) ^ 40 := by
    have : ((TOP : Nat) : Int) = (10 : Int) ^ 40 := by decide +kernel
    omega
  show (decide ((1 : Int) ≤ m) && decide ((m : Int) ≤ (10 : Int) ^ 40)) = true
  rw [decide_eq_true q, decide_eq_true (by omega)]
  rfl
theorem isInt_of {d : PyData} (h : isInt d = true) : ∃ n, d = .int n := by
  cases d <;> first | exact ⟨_, rfl⟩ | cases h
theorem sc_is_clock : FnScope ["value"] ["value"] (defScope (topS 23)) := ⟨rfl, rfl, rfl, by decide +kernel, rfl, by decide +kernel, by decide +kernel⟩
theorem ok_is_clock (T : Txt K mg a d) : FnOk P w K mg base CX0 2 a.is_clock d.is_clock ["value"] (spD K (fun i : PyData => [i]) (fun i => .bool (isClk i))) := by
  refine T.F_is_clock.ok sc_is_clock (fun vs H Q E h => spD_len (n := 1) (fun _ => rfl) h) (fun cdv A outer s H vs Q E hr h => ?_)
  obtain ⟨i, B0, F0, rt, go⟩ := enterD (N := ["value"]) h
  refine ⟨_, (pss_one (ps_ret (pe_and (pe_call (ok_is_integer T) (hr.mono (by decide)) rfl T.m_is_integer T.F_is_integer.kp T.b_is_integer .nil pass0 (pa_cons (pv 0) pa_nil)) (pe_one (pe_chain op_le op_le pe_int (pv 0) (pe_glob rfl T.c_MOST_CLOCK.choose_spec.1 T.c_MOST_CLOCK.choose_spec.2)))))), go _ ?_⟩
  refine go_retI (c := cB K (isClk i)) ?_ (rt _ (by simp))
  refine (ev_andV (b := isClk i) (ev_call i (ea_cons (ev_var rfl) ea_nil)) (fun h => ?_)).bo (by cases i <;> rfl)
  obtain ⟨n, rfl⟩ := isInt_of h
  exact ev_chain ev_int (ev_var rfl) (ev_int (n := 10000000000000000000000000000000000000000))
theorem sc_checked_clock : FnScope ["m"] ["m"] (defScope (topS 24)) := ⟨rfl, rfl, rfl, by decide +kernel, rfl, by decide +kernel, by decide +kernel⟩
theorem ok_checked_clock (T : Txt K mg a d) : FnOk P w K mg base CX0 3 a.checked_clock d.checked_clock ["m"] (spD K (fun i : {m : Nat // 0 < m ∧ m ≤ TOP} => [.int i.1]) (fun _ => .none)) := by
  refine T.F_checked_clock.ok sc_checked_clock (fun vs H Q E h => spD_len (n := 1) (fun _ => rfl) h) (fun cdv A outer s H vs Q E hr h => ?_)
  obtain ⟨i, B0, F0, rt, go⟩ := enterD (N := ["m"]) h
  refine ⟨_, (pss_one (ps_if (pt_not (pt_val (pe_call (ok_is_clock T) (hr.mono (by decide)) rfl T.m_is_clock T.F_is_clock.kp T.b_is_clock .nil pass0 (pa_cons (pv 0) pa_nil))))
      (pss_one ps_never)
      pss_nil)), go _ ?_⟩
  refine go_ifF (et_is (et_not (et_B (ev_call (.int (i.1 : Int)) (ea_cons (ev_var rfl) ea_nil)))) (by rw [clk_of i.2.1 i.2.2]; rfl)) (go_nx (go_end (rt _ (by simp))))
structure TA_ where
  m : Nat
  l : List Int
  x : Int
def TA_.ok (i : TA_) : Prop := 0 < i.m ∧ i.m ≤ TOP ∧ i.l.length ≤ 61 ∧ Bd BB i.l ∧ i.x.natAbs < 2 ^ BB
theorem mod_lt140 {z : Int} {m : Nat} (h0 : 0 < m) (h1 : m ≤ TOP) : (z % (m : Int)).natAbs < 2 ^ 140 := by
  have a := Int.emod_nonneg z (show (m : Int) ≠ 0 by omega)
  have b := Int.emod_lt_of_pos z (show (0 : Int) < m by omega)
  have := top_lt
  omega
theorem p140 {n : Nat} (h : n < 2 ^ 140) : n < 2 ^ BB := Nat.lt_of_lt_of_le h (Nat.pow_le_pow_right (by omega) (by decide))
theorem mod_ev {m : Int} {l : List Int} {i : Nat} {z x : Int} (h : l.drop (l.length - (i + 1)) = z :: l.drop (l.length - i)) : (ev (l.drop (l.length - i)) x % m * x + z) % m = ev (l.drop (l.length - (i + 1))) x % m := by
  rw [h]
  show _ = (z + x * ev (l.drop (l.length - i)) x) % m
  rw [Int.add_comm z, Int.mul_comm x, Int.add_emod, Int.mul_emod, Int.emod_emod_of_dvd _ (Int.dvd_refl m), ← Int.mul_emod, ← Int.add_emod]
end
end Y
namespace Y
open PySem L2 Z M StX
section
variable {P : Program} {w : World} {K : PySem.W.Frag} {mg : Str → Option Value} {base : Heap} {a : Ad} {d : Fd}
abbrev spAny (K : PySem.W.Frag) : Sp := spR (fun i : {x : Addr × Addr × Int // 0 < x.2.2 ∧ x.2.2.natAbs < 2 ^ 300} => [cDl i.1.1 i.1.2.1, cI K i.1.2.2]) (fun i cs' c' => (∃ r, c' = cI K r ∧ 0 ≤ r ∧ r < i.1.2.2) ∧ cs' = [cDl i.1.1 i.1.2.1, cNo])
theorem last_of {ns : List Int} (h : ns ≠ []) : ∃ n, ns[ns.length - 1]? = some n ∧ n ∈ ns := by
  have := List.length_pos_iff.mpr h
  exact ⟨ns[ns.length - 1], List.getElem?_eq_getElem (by omega), List.getElem_mem _⟩
theorem last_at {ns : List Int} {n : Int} (h : ns[ns.length - 1]? = some n) : atI (ns.map V.int) (-1) = some (.int n) := atI_last (by rw [List.length_map, List.getElem?_map, h]; rfl)
theorem dl_of {x y : Addr} {ns : List Int} {z : Int} (h1 : ∀ n ∈ ns, 0 ≤ n) (h2 : ns.length ≤ 48) (h3 : 0 ≤ z) (h4 : z < 2147483647) {v : Option V} {B F : Hp} {fp : List Addr} (h : (cDeal x y ns z).ok v B F fp) : (cDl x y).ok v B F fp := ⟨ns, z, h, h1, h2, h3, h4⟩
theorem sc__law_any : FnScope ["deal", "bound", "rest"] ["deal", "bound"] (defScope (topS 42)) := ⟨rfl, rfl, rfl, by decide +kernel, rfl, by decide +kernel, by decide +kernel⟩
theorem ok__law_any (T : Txt K mg a d) : FnOk P w K mg base CX0 1 a._law_any d._law_any ["deal", "bound"] (spAny K) := by
  refine T.F__law_any.ok sc__law_any (fun vs H Q E h => spR_len (n := 2) (fun _ => rfl) h) (fun cdv A outer s H vs Q E hr h => ?_)
  obtain ⟨i, B0, F0, rt, go⟩ := enter (N := ["deal", "bound", "rest"]) h
  refine ⟨_, (pss_cons (ps_while PassesOwn.never (PW.pt (pw_and (pt_cmpR (op_neD hr.units) (pe_ix ix_list (pv 0) pe_int (fun _ _ => rfl)) (pe_lst pa_nil) (nomark _)) (pw_and1 (pt_cmpR (op_eqD hr.units) (pe_ix ix_list (pe_ix ix_list (pv 0) pe_int (fun _ _ => rfl)) (pe_un un_neg pe_int) (fun _ _ => rfl)) pe_int (nomark _)))))
      (pss_one (ps_expr (pe_bm0 PySem.F.plainAttrs_list PySem.F.slot_list_pop PySem.F.type_list_pop mt_pop (pe_ix ix_list (pv 0) pe_int (fun _ _ => rfl))))))
    (pss_cons (ps_if (pt_cmpR (op_neD hr.units) (pe_ix ix_list (pv 0) pe_int (fun _ _ => rfl)) (pe_lst pa_nil) (nomark _))
      (pss_cons (ps_set (i := 2) sc__law_any.nd rfl (Or.inl rfl) (pe_callTy call_int1 (by rfl) T.n_int (by decide +kernel) (pa_cons (pe_bm0 PySem.F.plainAttrs_list PySem.F.slot_list_pop PySem.F.type_list_pop mt_pop (pe_ix ix_list (pv 0) pe_int (fun _ _ => rfl))) pa_nil)))
      (pss_cons (ps_expr (pe_bm PySem.F.plainAttrs_list PySem.F.slot_list_append PySem.F.type_list_append mt_append (pe_ix ix_list (pv 0) pe_int (fun _ _ => rfl)) (pa_cons (pe_op op_fdivW (pv 2) (pv 1)) pa_nil)))
      (pss_one (ps_ret (pe_op op_mod (pv 2) (pv 1))))))
      pss_nil)
    (pss_cons (ps_asg (pe_op op_mod (pe_callTy call_int1 (by rfl) T.n_int (by decide +kernel) (pa_cons (pe_op op_add (pe_op op_mulW (pe_ix ix_list (pv 0) pe_int (fun _ _ => rfl)) pe_int) pe_int) pa_nil)) pe_int) (pg_sub (pv 0) pe_int set_list))
    (pss_one (ps_ret (pe_op op_mod (pe_callTy call_int1 (by rfl) T.n_int (by decide +kernel) (pa_cons (pe_op op_fdivW (pe_ix ix_list (pv 0) pe_int (fun _ _ => rfl)) pe_int) pa_nil)) (pv 1))))))), go _ ?_⟩
  obtain ⟨⟨x, y, n⟩, hn, hb⟩ := i
  have hn : 0 < n := hn
  have hb : n.natAbs < 2 ^ 300 := hb
  have hdiv : CDivW 1 n := wide_div hn hb (by decide) (by decide)
  refine go_dl (k := 0) (a := x) (b := y) rfl fun ns z h1 h2 h3 h4 => ?_
  refine gs_while (W := fun m cs' => ∃ ns : List Int, m = ns.length ∧ (∀ n ∈ ns, 0 ≤ n) ∧ ns.length ≤ 48 ∧ cs' = [cDeal x y ns z, cI K n, cNo]) ns.length ⟨ns, rfl, h1, h2, rfl⟩ ?_
  rintro m cs' ⟨ns, rfl, h1, h2, rfl⟩
  have hne := et_test (K := K) (ev_dealNe (K := K) (cs := [cDeal x y ns z, cI K n, cNo]) (k := 0) rfl (ev_deal0 (K := K) (k := 0) rfl ev_int) (ev_lst (ds := []) ea_nil (by decide)))
  refine ⟨!decide (ns = []) && decide (cf ns (ns.length - 1) = 0), et_and hne (fun h => et_test (K := K) ?_), fun hb => ?_, fun hb => ?_⟩
  · have nn : ns ≠ [] := by simpa using h
    obtain ⟨w, hw, _⟩ := last_of nn
    have e : cf ns (ns.length - 1) = w := by
      unfold cf
      rw [List.getD_eq_getElem?_getD, hw]
      rfl
    rw [e]
    exact ev_eqI (ev_dealIx (k := 0) rfl (ev_deal0 (K := K) (k := 0) rfl ev_int) ((ev_neg (K := K) (ev_int (n := 1))).il (m := -1) rfl) (last_at hw)) ev_int
  · have nn : ns ≠ [] := by
      rw [Bool.and_eq_true] at hb
      simpa using hb.1
    obtain ⟨w, hw, _⟩ := last_of nn
    have lp := List.length_pos_iff.mpr nn
    refine go_dropX (ev_dealPop (K := K) (k := 0) rfl (ev_deal0 (K := K) (k := 0) rfl ev_int) hw) fun c cs' r => ?_
    obtain ⟨_, rfl⟩ := r
    exact go_mid ⟨ns.dropLast.length, by rw [List.length_dropLast]; omega, ns.dropLast, rfl, fun n hn => h1 n ((List.dropLast_sublist _).subset hn), by rw [List.length_dropLast]; omega, rfl⟩
  · refine gs_ifE hne (fun h => ?_) (fun h => ?_)
    · have nn : ns ≠ [] := by simpa using h
      obtain ⟨w, hw, wm⟩ := last_of nn
      have w0 := h1 w wm
      have lp := List.length_pos_iff.mpr nn
      refine gs_asgX (evX_int1 (ev_dealPop (K := K) (k := 0) rfl (ev_deal0 (K := K) (k := 0) rfl ev_int) hw)) fun c cs' r => ?_
      obtain ⟨rfl, rfl⟩ := r
      refine gs_dealApp (K := K) (k := 0) (n := w / n) rfl (ev_deal0 (K := K) (k := 0) rfl ev_int) (ev_int2 (C := CDivW) (ev_var rfl) (ev_var rfl) ⟨hn, hdiv.2⟩) (by rw [List.length_dropLast]; omega) ?_
      refine go_retI (ev_int2 (C := fun _ j => 0 < j) (ev_var rfl) (ev_var rfl) hn) ?_
      refine rt_wk (k := 0) rfl (fun v B F fp => dl_of ?_ ?_ h3 h4) (rt _ _ _ ⟨⟨w % n, rfl, Int.emod_nonneg _ (Int.ne_of_gt hn), Int.emod_lt_of_pos _ hn⟩, rfl⟩ (.keep cDl_pin cDl_pin (.no .nil)))
      · intro q hq
        rcases List.mem_append.mp hq with hq | hq
        · exact h1 q ((List.dropLast_sublist _).subset hq)
        · rw [List.mem_singleton.mp hq]
          exact Int.ediv_nonneg w0 (Int.le_of_lt hn)
      · rw [List.length_append, List.length_dropLast, List.length_singleton]
        omega
    · have z1 : 0 ≤ (z * 40693 + 71) % 2147483647 := Int.emod_nonneg _ (by decide)
      have z2 : (z * 40693 + 71) % 2147483647 < 2147483647 := Int.emod_lt_of_pos _ (by decide)
      refine gs_dealSet (K := K) (k := 0) (n := (z * 40693 + 71) % 2147483647) rfl (ev_int2 (C := fun _ j => 0 < j) (ev_int1 (ev_int20 (ev_int2 (C := CMulW) (ev_deal1 (K := K) (k := 0) rfl ev_int) ev_int (mw (a := 40) (b := 40) (by omega) (by decide) (by decide))) ev_int)) ev_int (by decide)) ev_int ?_
      generalize (z * 40693 + 71) % 2147483647 = u at z1 z2
      refine go_retI (ev_int2 (C := fun _ j => 0 < j) (ev_int1 (ev_int2 (C := CDivW) (ev_deal1 (K := K) (k := 0) rfl ev_int) (ev_int (n := 64)) (wide_div (b := 20) (by decide) (by decide) (by decide) (by decide)))) (ev_var rfl) hn) ?_
      exact rt_wk (k := 0) rfl (fun v B F fp => dl_of h1 h2 z1 z2) (rt _ _ _ ⟨⟨u / 64 % n, rfl, Int.emod_nonneg _ (Int.ne_of_gt hn), Int.emod_lt_of_pos _ hn⟩, rfl⟩ (.keep cDl_pin cDl_pin (.no .nil)))
section
variable {cs : List Cell} {x y : Addr} {k : Nat} {td tb tl : TE} {E : XK}
/-- _law_any(deal, n) -/
theorem ev_any {n : Int} (hk : cs[k]? = some (cDl x y)) (hd : Ev td cs (Is (cV (.ref x)))) (hb : Ev tb cs (Is (cI K n))) (h0 : 0 < n) (h1 : n.natAbs < 2 ^ 140) : Ev (tCall (spAny K) [] E (tCons td (tCons tb tNil))) cs (isI K (fun r => 0 ≤ r ∧ r < n)) :=
  ev_callK1 (I := {x : Addr × Addr × Int // 0 < x.2.2 ∧ x.2.2.natAbs < 2 ^ 300}) ⟨(x, y, n), h0, Nat.lt_trans h1 (by decide)⟩ k hk cDl_pin rfl (ea_cons hd (ea_cons hb ea_nil)) fun cs' c' po => ⟨po.2, po.1⟩
theorem ev_anyB {n : Int} (hk : cs[k]? = some (cDl x y)) (hd : Ev td cs (Is (cV (.ref x)))) (hb : Ev tb cs (Is (cI K n))) (h0 : 0 < n) (h1 : n.natAbs < 2 ^ 300) : Ev (tCall (spAny K) [] E (tCons td (tCons tb tNil))) cs (isI K (fun r => 0 ≤ r ∧ r < n)) :=
  ev_callK1 (I := {x : Addr × Addr × Int // 0 < x.2.2 ∧ x.2.2.natAbs < 2 ^ 300}) ⟨(x, y, n), h0, h1⟩ k hk cDl_pin rfl (ea_cons hd (ea_cons hb ea_nil)) fun cs' c' po => ⟨po.2, po.1⟩
end
abbrev spOf (K : PySem.W.Frag) : Sp := spR (fun i : {x : Addr × Addr × List PyData // 0 < x.2.2.length ∧ x.2.2.length ≤ 1000} => [cDl i.1.1 i.1.2.1, cD K (.list i.1.2.2)]) (fun i cs' c' => isD K (fun d => d ∈ i.1.2.2) c' ∧ cs' = [cDl i.1.1 i.1.2.1, cNo])
abbrev spOfV (K : PySem.W.Frag) : Sp := spR (fun i : {x : Addr × Addr × List V // 0 < x.2.2.length ∧ x.2.2.length ≤ 1000} => [cDl i.1.1 i.1.2.1, cL K i.1.2.2]) (fun i cs' c' => (∃ x, c' = cV x ∧ x ∈ i.1.2.2) ∧ cs' = [cDl i.1.1 i.1.2.1, cNo])
theorem len140 {n : Nat} (h : n ≤ 1000) : ((n : Nat) : Int).natAbs < 2 ^ 140 := by
  rw [Int.natAbs_natCast]
  exact Nat.lt_of_le_of_lt h (by decide)
theorem sc__law_of : FnScope ["deal", "some"] ["deal", "some"] (defScope (topS 43)) := ⟨rfl, rfl, rfl, by decide +kernel, rfl, by decide +kernel, by decide +kernel⟩
theorem ok__law_of (T : Txt K mg a d) : FnOk P w K mg base CX0 2 a._law_of d._law_of ["deal", "some"] (spOf K) := by
  refine T.F__law_of.ok sc__law_of (fun vs H Q E h => spR_len (n := 2) (fun _ => rfl) h) (fun cdv A outer s H vs Q E hr h => ?_)
  obtain ⟨i, B0, F0, rt, go⟩ := enter (N := ["deal", "some"]) h
  refine ⟨_, (pss_one (ps_ret (pe_ix ix_list (pv 1) (pe_call (ok__law_any T) (hr.mono (by decide)) rfl T.m__law_any T.F__law_any.kp T.b__law_any .nil pass0 (pa_cons (pv 0) (pa_cons (pe_callB call_len_seq (by rfl) T.n_len PySem.boot_len (pa_cons (pv 1) pa_nil)) pa_nil))) (fun _ _ => rfl)))), go _ ?_⟩
  obtain ⟨⟨x, y, ds⟩, h0, h1⟩ := i
  have h0 : 0 < ds.length := h0
  have h1 : ds.length ≤ 1000 := h1
  refine go_ret (ev_ixLN (ds := ds) (ev_rdD rfl) (ev_any (k := 0) rfl (ev_varP (i := 0) rfl cDl_pin) (ev_lenL (ds := ds) (ev_rdD rfl)) (by omega) (len140 h1)) fun i h => h) fun c r => ?_
  exact rt _ _ _ ⟨r, rfl⟩ (.keep cDl_pin cDl_pin (.no .nil))
theorem ok__law_ofV (T : Txt K mg a d) : FnOk P w K mg base CX0 2 a._law_of d._law_of ["deal", "some"] (spOfV K) := by
  refine T.F__law_of.ok sc__law_of (fun vs H Q E h => spR_len (n := 2) (fun _ => rfl) h) (fun cdv A outer s H vs Q E hr h => ?_)
  obtain ⟨i, B0, F0, rt, go⟩ := enter (N := ["deal", "some"]) h
  refine ⟨_, (pss_one (ps_ret (pe_ix ix_list (pv 1) (pe_call (ok__law_any T) (hr.mono (by decide)) rfl T.m__law_any T.F__law_any.kp T.b__law_any .nil pass0 (pa_cons (pv 0) (pa_cons (pe_callB call_len_seq (by rfl) T.n_len PySem.boot_len (pa_cons (pv 1) pa_nil)) pa_nil))) (fun _ _ => rfl)))), go _ ?_⟩
  obtain ⟨⟨x, y, ds⟩, h0, h1⟩ := i
  have h0 : 0 < ds.length := h0
  have h1 : ds.length ≤ 1000 := h1
  refine go_ret (ev_ixV (xs := ds) (ev_varL rfl) (ev_any (k := 0) rfl (ev_varP (i := 0) rfl cDl_pin) (ev_lenV (xs := ds) (ev_varL rfl)) (by omega) (len140 h1)) fun i h => h) fun c r => ?_
  exact rt _ _ _ ⟨r, rfl⟩ (.keep cDl_pin cDl_pin (.no .nil))
section
variable {cs : List Cell} {x y : Addr} {k : Nat} {td tb tl : TE} {E : XK}
/-- _law_of(deal, [..]) -/
theorem ev_of {P : List PyData → Prop} (hk : cs[k]? = some (cDl x y)) (hd : Ev td cs (Is (cV (.ref x)))) (hb : Ev tl cs (isLs K P)) (h0 : ∀ ds, P ds → 0 < ds.length ∧ ds.length ≤ 1000) : Ev (tCall (spOf K) [] E (tCons td (tCons tl tNil))) cs (isD K (fun d => ∃ ds, P ds ∧ d ∈ ds)) :=
  ev_callK (I := {x : Addr × Addr × List PyData // 0 < x.2.2.length ∧ x.2.2.length ≤ 1000}) k hk cDl_pin (fun i as => ∃ ds, ∃ p : P ds, i = ⟨(x, y, ds), h0 ds p⟩ ∧ as = [cD K (.list ds)]) (fun i as ⟨ds, p, e1, e2⟩ => by rw [e1, e2])
    ((ea_consN hd (ea_consN hb ea_nil)).imp fun as ⟨c, r, e1, e2, c2, r2, e3, ⟨ds, e4, p⟩, e5⟩ => ⟨⟨(x, y, ds), h0 ds p⟩, [cD K (.list ds)], by rw [e1, e2, e3, e4, e5], ds, p, rfl, rfl⟩)
    fun i as cs' c' ⟨ds, p, e1, e2⟩ po => by
      subst e1 e2
      obtain ⟨⟨d, e, m⟩, e3⟩ := po
      exact ⟨e3, d, e, ds, p, m⟩
/-- .. of values -/
theorem ev_ofV {xs : List V} (hk : cs[k]? = some (cDl x y)) (hd : Ev td cs (Is (cV (.ref x)))) (hb : Ev tl cs (Is (cL K xs))) (h0 : 0 < xs.length ∧ xs.length ≤ 1000) : Ev (tCall (spOfV K) [] E (tCons td (tCons tl tNil))) cs (fun c => ∃ x, c = cV x ∧ x ∈ xs) :=
  ev_callK1 (I := {x : Addr × Addr × List V // 0 < x.2.2.length ∧ x.2.2.length ≤ 1000}) ⟨(x, y, xs), h0⟩ k hk cDl_pin rfl (ea_cons hd (ea_cons hb ea_nil)) fun cs' c' po => ⟨po.2, po.1⟩
/-- .. of ints -/
theorem ev_ofI {P : List PyData → Prop} {Q : Int → Prop} (hk : cs[k]? = some (cDl x y)) (hd : Ev td cs (Is (cV (.ref x)))) (hb : Ev tl cs (isLs K P)) (h0 : ∀ ds, P ds → 0 < ds.length ∧ ds.length ≤ 1000) (hq : ∀ ds d, P ds → d ∈ ds → ∃ n, d = .int n ∧ Q n) : Ev (tCall (spOf K) [] E (tCons td (tCons tl tNil))) cs (isI K Q) :=
  (ev_of hk hd hb h0).toI fun d ⟨ds, p, m⟩ => hq ds d p m
end
theorem deal_v {x y : Addr} {cs : List Cell} (h : cs[0]? = some (cDl x y)) : Ev (tVar 0) cs (Is (cV (.ref x))) := ev_varP h cDl_pin
/-- a row of ints, told one by one -/
def intsP (l : List PyData) (P : Int → Prop) : Prop := ∀ d ∈ l, ∃ n, d = PyData.int n ∧ P n
end
end Y
namespace Y
open PySem L2 Z M StX
section
variable {P : Program} {w : World} {K : PySem.W.Frag} {mg : Str → Option Value} {base : Heap} {a : Ad} {d : Fd}
section
variable {cs : List Cell} {x y : Addr} {k : Nat} {td tb tl te : TE} {ta : TA} {E : XK}
theorem ev_powc {b e r : Int} (h : b ^ e.toNat = r) (h2 : CPow b e) : Ev (tOp (rI CPow fun i j => .int (i ^ j.toNat)) (tC (.int b)) (tC (.int e))) cs (Is (cI K r)) := (ev_int2 (C := CPow) ev_int ev_int h2).il h
theorem ea_i0 {P : Int → Prop} : EvA tNil cs (rowD K (fun ds => ds.length = 0 ∧ intsP ds P)) := ea_nilD.imp fun as ⟨ds, e, p⟩ => ⟨ds, e, by rw [p]; rfl, fun d m => by rw [p] at m; cases m⟩
theorem ea_iC {P : Int → Prop} {n : Nat} (h : Ev te cs (isI K P)) (hr : EvA ta cs (rowD K (fun ds => ds.length = n ∧ intsP ds P))) : EvA (tCons te ta) cs (rowD K (fun ds => ds.length = n + 1 ∧ intsP ds P)) :=
  (ea_consD (P := fun d => ∃ n, d = .int n ∧ P n) (h.imp fun c ⟨n, e, p⟩ => ⟨_, e, n, rfl, p⟩) hr).imp fun as ⟨ds, e, d, r, e2, ⟨n, e3, p⟩, l, q⟩ => ⟨ds, e, by rw [e2, List.length_cons, l], fun d' m => by
    rw [e2] at m
    rcases List.mem_cons.mp m with z | z
    · exact ⟨n, by rw [z, e3], p⟩
    · exact q d' z⟩
/-- [..] of ints, as data -/
theorem ev_lsI {P : Int → Prop} {n : Nat} (h : EvA ta cs (rowD K (fun ds => ds.length = n ∧ intsP ds P))) (hn : n ≤ 1000) : Ev (tLst ta) cs (isLs K (fun ds => ds.length = n ∧ intsP ds P)) := (ev_lstN h fun ds p => by rw [p.1]; omega).freezeN
theorem ev_ci {P : Int → Prop} {n : Int} (h : P n) : Ev (tC (.int n)) cs (isI K P) := ev_int.i.wI fun m e => e ▸ h
/-- _law_of(deal, [..]) of ints -/
theorem ev_pick {P : Int → Prop} {n : Nat} (hk : cs[k]? = some (cDl x y)) (hd : Ev td cs (Is (cV (.ref x)))) (h : EvA ta cs (rowD K (fun ds => ds.length = n ∧ intsP ds P))) (h0 : 0 < n) (hn : n ≤ 1000) : Ev (tCall (spOf K) [] E (tCons td (tCons (tLst ta) tNil))) cs (isI K P) :=
  ev_ofI hk hd (ev_lsI h hn) (fun ds p => by rw [p.1]; exact ⟨h0, hn⟩) fun ds d p m => p.2 d m
theorem ev_ii {n : Int} {P : Int → Prop} (h : Ev te cs (Is (cI K n))) (p : P n) : Ev te cs (isI K P) := h.i.wI fun m e => e ▸ p
end
abbrev spGreat (K : PySem.W.Frag) : Sp := spR (fun i : Addr × Addr => [cDl i.1 i.2]) (fun i cs' c' => isI K (fun n => n.natAbs < 2 ^ 40) c' ∧ cs' = [cDl i.1 i.2])
theorem small_mw {i j : Int} (h1 : i.natAbs < 2 ^ 140) (h2 : j.natAbs < 2 ^ 140) : CMulW i j := mw h1 h2 (by decide)
theorem n140 {i : Int} (h1 : 0 ≤ i) (h2 : i < 1000000000000000) : i.natAbs < 2 ^ 140 := by omega
theorem sc__law_great : FnScope ["deal", "number"] ["deal"] (defScope (topS 45)) := ⟨rfl, rfl, rfl, by decide +kernel, rfl, by decide +kernel, by decide +kernel⟩
theorem ok__law_great (T : Txt K mg a d) : FnOk P w K mg base CX0 3 a._law_great d._law_great ["deal"] (spGreat K) := by
  refine T.F__law_great.ok sc__law_great (fun vs H Q E h => spR_len (n := 1) (fun _ => rfl) h) (fun cdv A outer s H vs Q E hr h => ?_)
  obtain ⟨i, B0, F0, rt, go⟩ := enter (N := ["deal", "number"]) h
  refine ⟨_, (pss_cons (ps_set (i := 1) sc__law_great.nd rfl (Or.inl rfl) (pe_op op_add (pe_op op_mulW (pe_call (ok__law_any T) (hr.mono (by decide)) rfl T.m__law_any T.F__law_any.kp T.b__law_any .nil pass0 (pa_cons (pv 0) (pa_cons (pe_op op_pow pe_int pe_int) pa_nil))) (pe_call (ok__law_of T) (hr.mono (by decide)) rfl T.m__law_of T.F__law_of.kp T.b__law_of .nil pass0 (pa_cons (pv 0) (pa_cons (pe_lst (pa_cons pe_int (pa_cons pe_int (pa_cons (pe_op op_pow pe_int pe_int) pa_nil)))) pa_nil)))) (pe_call (ok__law_any T) (hr.mono (by decide)) rfl T.m__law_any T.F__law_any.kp T.b__law_any .nil pass0 (pa_cons (pv 0) (pa_cons (pe_op op_pow pe_int pe_int) pa_nil)))))
    (pss_one (ps_ret (pe_op op_mulW (pe_op op_mod (pv 1) (pe_op op_pow pe_int pe_int)) (pe_call (ok__law_of T) (hr.mono (by decide)) rfl T.m__law_of T.F__law_of.kp T.b__law_of .nil pass0 (pa_cons (pv 0) (pa_cons (pe_lst (pa_cons pe_int (pa_cons pe_int (pa_cons (pe_un un_neg pe_int) pa_nil)))) pa_nil))))))), go _ ?_⟩
  obtain ⟨x, y⟩ := i
  have hd : ∀ c1, Ev (tVar 0) [cDl x y, c1] (Is (cV (.ref x))) := fun c1 => ev_varP rfl cDl_pin
  refine gs_asg (R := isI K (fun n => 0 ≤ n ∧ n < 1000001000000)) (ev_int20N (P1 := fun n => 0 ≤ n ∧ n ≤ 999999000000) (P2 := fun n => 0 ≤ n ∧ n < 1000000) (ev_int2N (C := CMulW) (P1 := fun n => 0 ≤ n ∧ n < 1000000) (P2 := fun n => n = 0 ∨ n = 1 ∨ n = 1000000)
    (ev_any (k := 0) rfl (hd _) (ev_powc (K := K) (r := 1000000) (by decide) ⟨by decide, by decide, by decide⟩) (by decide) (by decide))
    (ev_pick (k := 0) (x := x) (y := y) rfl (hd _) (ea_iC (ev_ci (.inl rfl)) (ea_iC (ev_ci (.inr (.inl rfl))) (ea_iC (ev_ii (ev_powc (K := K) (r := 1000000) (by decide) ⟨by decide, by decide, by decide⟩) (.inr (.inr rfl))) ea_i0))) (by decide) (by decide)) ?_ ?_)
    (ev_any (k := 0) rfl (hd _) (ev_powc (K := K) (r := 1000000) (by decide) ⟨by decide, by decide, by decide⟩) (by decide) (by decide)) ?_) fun c r => ?_
  · rintro i j ⟨h1, h2⟩ h3
    exact small_mw (n140 h1 (by omega)) (by omega)
  · rintro i j ⟨h1, h2⟩ (rfl | rfl | rfl) <;> omega
  · rintro i j ⟨h1, h2⟩ ⟨h3, h4⟩
    omega
  · obtain ⟨n, rfl, h1, h2⟩ := r
    have z1 : 0 ≤ n % 1000000000000 := Int.emod_nonneg _ (by decide)
    have z2 : n % 1000000000000 < 1000000000000 := Int.emod_lt_of_pos _ (by decide)
    refine go_ret (R := isI K (fun n => n.natAbs < 2 ^ 40)) (ev_int2N (C := CMulW) (P1 := fun m => m = n % 1000000000000) (P2 := fun n => n = 1 ∨ n = -1) (ev_int2 (C := fun _ j => 0 < j) (ev_var rfl) (ev_powc (K := K) (r := 1000000000000) (by decide) ⟨by decide, by decide, by decide⟩) (by decide)).i
      (ev_pick (k := 0) (x := x) (y := y) rfl (hd _) (ea_iC (ev_ci (.inl rfl)) (ea_iC (ev_ci (.inl rfl)) (ea_iC (ev_ii ((ev_neg (K := K) (ev_int (n := 1))).il (m := -1) rfl) (.inr rfl)) ea_i0))) (by decide) (by decide)) ?_ ?_) fun c r => ?_
    · rintro i j rfl h3
      exact small_mw (n140 z1 (by omega)) (by omega)
    · rintro i j rfl h3
      generalize n % 1000000000000 = q at z1 z2
      rcases h3 with rfl | rfl <;> omega
    · exact rt _ _ _ ⟨r, rfl⟩ (.keep cDl_pin cDl_pin .nil)
abbrev spRow (K : PySem.W.Frag) : Sp := spR (fun i : {x : Addr × Addr × Nat // x.2.2 ≤ 100} => [cDl i.1.1 i.1.2.1, cI K (i.1.2.2 : Nat)]) (fun i cs' c' => (∃ ns : List Int, c' = cD K (tI ns) ∧ ns.length ≤ i.1.2.2 + 1 ∧ ∀ n ∈ ns, n.natAbs < 2 ^ 40) ∧ cs' = [cDl i.1.1 i.1.2.1, cNo])
theorem q40 {n : Int} (h1 : -1000 ≤ n) (h2 : n ≤ 1000) : n.natAbs < 2 ^ 40 := by omega
theorem zeros_map {n : Nat} : (List.replicate n [PyData.int 0]).flatten = (List.replicate n (0 : Int)).map PyData.int := zeros_flat n
theorem sc__law_row : FnScope ["deal", "most", "form", "found", "turn"] ["deal", "most"] (defScope (topS 49)) := ⟨rfl, rfl, rfl, by decide +kernel, rfl, by decide +kernel, by decide +kernel⟩
theorem ok__law_row (T : Txt K mg a d) : FnOk P w K mg base CX0 4 a._law_row d._law_row ["deal", "most"] (spRow K) := by
  refine T.F__law_row.ok sc__law_row (fun vs H Q E h => spR_len (n := 2) (fun _ => rfl) h) (fun cdv A outer s H vs Q E hr h => ?_)
  obtain ⟨i, B0, F0, rt, go⟩ := enter (N := ["deal", "most", "form", "found", "turn"]) h
  refine ⟨_, (pss_cons (ps_par (i := 2) (j := 3) (by rfl) sc__law_row.nd rfl rfl (by decide) rfl rfl (pa_cons (pe_call (ok__law_any T) (hr.mono (by decide)) rfl T.m__law_any T.F__law_any.kp T.b__law_any .nil pass0 (pa_cons (pv 0) (pa_cons pe_int pa_nil))) (pa_cons (pe_lst pa_nil) pa_nil)) (by rfl))
    (pss_cons (ps_for PassesOwn.never rfl (pi_range1 (by rfl) T.n_range (pa_cons (pe_call (ok__law_any T) (hr.mono (by decide)) rfl T.m__law_any T.F__law_any.kp T.b__law_any .nil pass0 (pa_cons (pv 0) (pa_cons (pe_op op_add (pv 1) pe_int) pa_nil))) pa_nil)) (pg_name (i := 4) sc__law_row.nd rfl (Or.inl rfl))
      (pss_one (ps_if (pt_cmpR (op_eqD hr.units) (pv 2) pe_int (nomark _))
        (pss_one (ps_expr (pe_bm PySem.F.plainAttrs_list PySem.F.slot_list_append PySem.F.type_list_append mt_append (pv 3) (pa_cons (pe_op op_sub (pe_call (ok__law_any T) (hr.mono (by decide)) rfl T.m__law_any T.F__law_any.kp T.b__law_any .nil pass0 (pa_cons (pv 0) (pa_cons pe_int pa_nil))) pe_int) pa_nil))))
        (pss_one (ps_if (pt_cmpR (op_eqD hr.units) (pv 2) pe_int (nomark _))
          (pss_one (ps_expr (pe_bm PySem.F.plainAttrs_list PySem.F.slot_list_append PySem.F.type_list_append mt_append (pv 3) (pa_cons (pe_call (ok__law_great T) (hr.mono (by decide)) rfl T.m__law_great T.F__law_great.kp T.b__law_great .nil pass0 (pa_cons (pv 0) pa_nil)) pa_nil))))
          (pss_one (ps_if (pt_cmpR (op_eqD hr.units) (pv 2) pe_int (nomark _))
            (pss_one (ps_expr (pe_bm PySem.F.plainAttrs_list PySem.F.slot_list_append PySem.F.type_list_append mt_append (pv 3) (pa_cons (pe_call (ok__law_of T) (hr.mono (by decide)) rfl T.m__law_of T.F__law_of.kp T.b__law_of .nil pass0 (pa_cons (pv 0) (pa_cons (pe_lst (pa_cons pe_int (pa_cons pe_int (pa_cons pe_int (pa_cons pe_int (pa_cons (pe_un un_neg pe_int) (pa_cons (pe_call (ok__law_any T) (hr.mono (by decide)) rfl T.m__law_any T.F__law_any.kp T.b__law_any .nil pass0 (pa_cons (pv 0) (pa_cons pe_int pa_nil))) pa_nil))))))) pa_nil))) pa_nil))))
            (pss_one (ps_expr (pe_bm PySem.F.plainAttrs_list PySem.F.slot_list_append PySem.F.type_list_append mt_append (pv 3) (pa_cons (pe_call (ok__law_of T) (hr.mono (by decide)) rfl T.m__law_of T.F__law_of.kp T.b__law_of .nil pass0 (pa_cons (pv 0) (pa_cons (pe_lst (pa_cons pe_int (pa_cons pe_int pa_nil))) pa_nil))) pa_nil)))))))))))
    (pss_one (ps_ret (pe_callTy call_tuple_of (by rfl) T.n_tuple (by decide +kernel) (pa_cons (pe_op op_cat (pv 3) (pe_op op_rep (pe_lst (pa_cons pe_int pa_nil)) (pe_call (ok__law_of T) (hr.mono (by decide)) rfl T.m__law_of T.F__law_of.kp T.b__law_of .nil pass0 (pa_cons (pv 0) (pa_cons (pe_lst (pa_cons pe_int (pa_cons pe_int (pa_cons pe_int pa_nil)))) pa_nil))))) pa_nil)))))), go _ ?_⟩
  obtain ⟨⟨x, y, n⟩, hn⟩ := i
  have hn : n ≤ 100 := hn
  refine gs_parG (ea2 (ev_any (k := 0) (x := x) (y := y) rfl (ev_varP rfl cDl_pin) (ev_int (n := 4)) (by decide) (by decide)) (ev_lst (K := K) (ds := []) ea_nil (by decide))) fun c1 c2 ⟨⟨f, e1, f0, f4⟩, ⟨l, e2⟩⟩ => ?_
  subst e1 e2
  refine gs_forR (P := fun r => 0 ≤ r ∧ r < (n : Int) + 1) (ev_any (k := 0) (x := x) (y := y) rfl (ev_varP rfl cDl_pin) (ev_int20 (ev_var rfl) ev_int) (by omega) (by omega)) (fun r h => by omega) (fun i cs' => ∃ (ns : List Int) (c4 : Cell), cs' = [cDl x y, cI K (n : Int), cI K f, cOwn K l (ns.map .int), c4] ∧ ns.length = i ∧ ∀ n ∈ ns, n.natAbs < 2 ^ 40)
    ⟨[], cNo, rfl, rfl, fun n h => by cases h⟩ ?_ ?_
  · rintro B1 sB N i cs' ⟨hN0, hN⟩ hi ⟨ns, c4, rfl, hl, hb⟩
    have fin : ∀ (d : PyData), (∃ n, d = .int n ∧ n.natAbs < 2 ^ 40) → ∀ T, T = Mid B1 F0 (fun cs' => ∃ (ns : List Int) (c4 : Cell), cs' = [cDl x y, cI K (n : Int), cI K f, cOwn K l (ns.map .int), c4] ∧ ns.length = i + 1 ∧ ∀ n ∈ ns, n.natAbs < 2 ^ 40) →
        Go B1 F0 [cDl x y, cI K (n : Int), cI K f, cOwn K l (ns.map .int ++ [d]), cI K (i : Int)] T := fun d ⟨z, ed, hz⟩ T eT => by
      subst eT ed
      refine go_mid ⟨ns ++ [z], _, by rw [List.map_append]; rfl, by rw [List.length_append, hl]; rfl, fun q hq => ?_⟩
      rcases List.mem_append.mp hq with hq | hq
      · exact hb q hq
      · rw [List.mem_singleton.mp hq]; exact hz
    have lz : (ns.map PyData.int).length < 100000 := by rw [List.length_map]; omega
    have hd : Ev (tVar 0) [cDl x y, cI K (n : Int), cI K f, cOwn K l (ns.map .int), cI K (i : Int)] (Is (cV (.ref x))) := ev_varP rfl cDl_pin
    have tf : ∀ k : Int, EvT (tTest (tOp (rEqD K) (tVar 2) (tC (.int k)))) [cDl x y, cI K (n : Int), cI K f, cOwn K l (ns.map .int), cI K (i : Int)] (fun b => b = decide (f = k)) := fun k => et_test (K := K) (ev_eqI (ev_var rfl) ev_int)
    refine go_if (tf 0) (fun _ => ?_) (fun _ => go_if (tf 1) (fun _ => ?_) (fun _ => go_if (tf 2) (fun _ => ?_) (fun _ => ?_)))
    · exact go_appendN (Q := fun d => ∃ n, d = .int n ∧ n.natAbs < 2 ^ 40) (i := 3) rfl (Ev.toD (ev_int20N (P := fun n => n.natAbs < 2 ^ 40) (ev_any (k := 0) rfl hd (ev_int (n := 9)) (by decide) (by decide)) (ev_ci (P := fun z => z = 4) rfl) (fun i j h1 h2 => by omega))) lz fun d qd => fin d qd _ rfl
    · exact go_appendN (Q := fun d => ∃ n, d = .int n ∧ n.natAbs < 2 ^ 40) (i := 3) rfl (Ev.toD (P := fun n => n.natAbs < 2 ^ 40) (ev_callK1 (I := Addr × Addr) (x, y) 0 rfl cDl_pin rfl (ea_cons hd ea_nil) fun cs' c' po => ⟨po.2, po.1⟩)) lz fun d qd => fin d qd _ rfl
    · exact go_appendN (Q := fun d => ∃ n, d = .int n ∧ n.natAbs < 2 ^ 40) (i := 3) rfl (Ev.toD (P := fun n => n.natAbs < 2 ^ 40) (ev_pick (k := 0) (x := x) (y := y) rfl hd (ea_iC (ev_ci (by decide)) (ea_iC (ev_ci (by decide)) (ea_iC (ev_ci (by decide)) (ea_iC (ev_ci (by decide)) (ea_iC (ev_ii ((ev_neg (K := K) (ev_int (n := 1))).il (m := -1) rfl) (by decide)) (ea_iC ((ev_any (k := 0) rfl hd (ev_int (n := 100)) (by decide) (by decide)).wI fun z h => by omega) ea_i0)))))) (by decide) (by decide))) lz fun d qd => fin d qd _ rfl
    · exact go_appendN (Q := fun d => ∃ n, d = .int n ∧ n.natAbs < 2 ^ 40) (i := 3) rfl (Ev.toD (P := fun n => n.natAbs < 2 ^ 40) (ev_pick (k := 0) (x := x) (y := y) rfl hd (ea_iC (ev_ci (by decide)) (ea_iC (ev_ci (by decide)) ea_i0)) (by decide) (by decide))) lz fun d qd => fin d qd _ rfl
  · rintro N cs' ⟨hN0, hN⟩ ⟨ns, c4, rfl, hl, hb⟩
    have hd : Ev (tVar 0) [cDl x y, cI K (n : Int), cI K f, cOwn K l (ns.map .int), c4] (Is (cV (.ref x))) := ev_varP rfl cDl_pin
    refine go_ret (ev_tupleN (Ev.freezeN (ev_catO (i := 3) rfl (ev_repN (P := fun z => z = 0 ∨ z = 1) (ev_lst (ds := [.int 0]) (ea_cons ev_int ea_nil) (by decide)) (ev_pick (k := 0) (x := x) (y := y) rfl hd (ea_iC (ev_ci (.inl rfl)) (ea_iC (ev_ci (.inl rfl)) (ea_iC (ev_ci (.inr rfl)) ea_i0))) (by decide) (by decide)) (fun z h => by
      rcases h with rfl | rfl <;> decide)) (fun ys h => ?_)))) fun c r => ?_
    · obtain ⟨z, hz, rfl⟩ := h
      rw [zeros_map, List.length_map, List.length_map, List.length_replicate]
      omega
    · obtain ⟨d, rfl, ds, rfl, ys, ⟨z, hz, rfl⟩, rfl⟩ := r
      refine rt _ _ _ ⟨⟨ns ++ List.replicate z.toNat 0, ?_, ?_, fun q hq => ?_⟩, rfl⟩ (.keep cDl_pin cDl_pin (.no .nil))
      · rw [zeros_map, ← List.map_append]
        rfl
      · rw [List.length_append, List.length_replicate]
        show ns.length + z.toNat ≤ n + 1
        omega
      · rcases List.mem_append.mp hq with hq | hq
        · exact hb q hq
        · rw [List.eq_of_mem_replicate hq]
          decide
abbrev spSmall (K : PySem.W.Frag) : Sp := spR (fun i : {x : Addr × Addr × Nat // 0 < x.2.2 ∧ x.2.2 ≤ 1000000} => [cDl i.1.1 i.1.2.1, cI K (i.1.2.2 : Nat)]) (fun i cs' c' => isI K (fun r => 0 < r ∧ r ≤ (i.1.2.2 : Int)) c' ∧ cs' = [cDl i.1.1 i.1.2.1, cNo])
def smallC : List Int := [1, 2, 3, 4, 5, 6, 7, 8, 9, 10, 12, 16, 18, 24, 25, 27, 32, 36, 48, 49, 60, 64, 81, 120, 125, 128, 240, 243, 256, 360, 512, 600]
theorem small_pos : ∀ z ∈ smallC, (0 : Int) < z := by decide
theorem sc__law_small_clock : FnScope ["deal", "most", "some", "m"] ["deal", "most"] (defScope (topS 50)) := ⟨rfl, rfl, rfl, by decide +kernel, rfl, by decide +kernel, by decide +kernel⟩
theorem ok__law_small_clock (T : Txt K mg a d) : FnOk P w K mg base CX0 3 a._law_small_clock d._law_small_clock ["deal", "most"] (spSmall K) := by
  refine T.F__law_small_clock.ok sc__law_small_clock (fun vs H Q E h => spR_len (n := 2) (fun _ => rfl) h) (fun cdv A outer s H vs Q E hr h => ?_)
  obtain ⟨i, B0, F0, rt, go⟩ := enter (N := ["deal", "most", "some", "m"]) h
  refine ⟨_, (pss_cons (ps_setLc (i := 2) (own := [("m", 3)]) (g := (gName 3)) rfl sc__law_small_clock.nd rfl rfl (sw_true rfl rfl rfl (by decide +kernel)) (pi_list (pe_lst (pa_cons pe_int (pa_cons pe_int (pa_cons pe_int (pa_cons pe_int (pa_cons pe_int (pa_cons pe_int (pa_cons pe_int (pa_cons pe_int (pa_cons pe_int (pa_cons pe_int (pa_cons pe_int (pa_cons pe_int (pa_cons pe_int (pa_cons pe_int (pa_cons pe_int (pa_cons pe_int (pa_cons pe_int (pa_cons pe_int (pa_cons pe_int (pa_cons pe_int (pa_cons pe_int (pa_cons pe_int (pa_cons pe_int (pa_cons pe_int (pa_cons pe_int (pa_cons pe_int (pa_cons pe_int (pa_cons pe_int (pa_cons pe_int (pa_cons pe_int (pa_cons pe_int (pa_cons pe_int pa_nil)))))))))))))))))))))))))))))))))) (blkOk_by (own := [("m", 3)]) (N := ["deal", "most", "some", "m"]) (sc := defScope (topS 50)) (by decide +kernel)) (fun _ _ _ _ _ => (pg_name (i := 3) sc__law_small_clock.nd rfl (Or.inl rfl))) (fun _ _ _ _ _ => (pts_one (pt_cmpR op_le (pv 3) (pv 1) (nomark _)))) (fun _ _ _ _ _ => (pv 3)))
    (pss_one (ps_ret (pe_call (ok__law_of T) (hr.mono (by decide)) rfl T.m__law_of T.F__law_of.kp T.b__law_of .nil pass0 (pa_cons (pv 0) (pa_cons (pe_lst (pa_cons (pe_call (ok__law_of T) (hr.mono (by decide)) rfl T.m__law_of T.F__law_of.kp T.b__law_of .nil pass0 (pa_cons (pv 0) (pa_cons (pv 2) pa_nil))) (pa_cons (pe_call (ok__law_of T) (hr.mono (by decide)) rfl T.m__law_of T.F__law_of.kp T.b__law_of .nil pass0 (pa_cons (pv 0) (pa_cons (pv 2) pa_nil))) (pa_cons (pe_op op_add pe_int (pe_call (ok__law_any T) (hr.mono (by decide)) rfl T.m__law_any T.F__law_any.kp T.b__law_any .nil pass0 (pa_cons (pv 0) (pa_cons (pv 1) pa_nil)))) pa_nil)))) pa_nil)))))), go _ ?_⟩
  obtain ⟨⟨x, y, n⟩, hn, hn2⟩ := i
  have hn : 0 < n := hn
  have hn2 : n ≤ 1000000 := hn2
  refine gs_setO (ev_lc1 smallC PyData.int (fun z => decide (z ≤ (n : Int))) PyData.int (ei_list (ds := smallC.map .int) (ev_lstD (by
    show EvA _ _ (fun as => as = ([1, 2, 3, 4, 5, 6, 7, 8, 9, 10, 12, 16, 18, 24, 25, 27, 32, 36, 48, 49, 60, 64, 81, 120, 125, 128, 240, 243, 256, 360, 512, 600] : List Int).map fun z => cI K z)
    repeat first | exact ea_nil | refine ea_cons ev_int ?_) (by decide))) rfl (fun i c h => item_ints h) rfl (by decide) (fun z _ => et_test (ev_cmp2 (ev_var rfl) (ev_var rfl))) (fun z _ _ => ev_var rfl)) fun l => ?_
  refine go_freeze (i := 2) rfl ?_
  have hd : ∀ c3, Ev (tVar 0) [cDl x y, cI K (n : Int), cD K (.list ((smallC.filter fun z => decide (z ≤ (n : Int))).map .int)), c3] (Is (cV (.ref x))) := fun c3 => ev_varP rfl cDl_pin
  have l1 : (1 : Int) ∈ smallC.filter fun z => decide (z ≤ (n : Int)) := List.mem_filter.mpr ⟨by decide, decide_eq_true (by omega)⟩
  have one : ∀ {E}, Ev (tCall (spOf K) [] E (tCons (tVar 0) (tCons (tVar 2) tNil))) [cDl x y, cI K (n : Int), cD K (.list ((smallC.filter fun z => decide (z ≤ (n : Int))).map .int)), cNo] (isI K (fun r => 0 < r ∧ r ≤ (n : Int))) := fun {E} =>
    ev_ofI (k := 0) rfl (hd _) (ev_var (i := 2) rfl).lsd (fun ds e => by
      subst e
      rw [List.length_map]
      exact ⟨List.length_pos_of_mem l1, Nat.le_trans (List.length_filter_le _ _) (by decide)⟩) fun ds d e m => by
      subst e
      obtain ⟨z, hz, e⟩ := List.mem_map.mp m
      obtain ⟨z1, z2⟩ := List.mem_filter.mp hz
      exact ⟨z, e.symm, small_pos z z1, of_decide_eq_true z2⟩
  refine go_ret (R := isI K (fun r => 0 < r ∧ r ≤ (n : Int))) (ev_pick (k := 0) (x := x) (y := y) rfl (hd _) (ea_iC one (ea_iC one (ea_iC (ev_int20N (P1 := fun z => z = 1) (P2 := fun r => 0 ≤ r ∧ r < (n : Int)) (ev_ci rfl) (ev_any (k := 0) rfl (hd _) (ev_var rfl) (by omega) (by omega)) (fun i j h1 h2 => by omega)) ea_i0))) (by decide) (by decide)) fun c r => ?_
  exact rt _ _ _ ⟨r, rfl⟩ (.keep cDl_pin cDl_pin (.no .nil))
end
end Y
namespace Y
open PySem L2 Z M StX
section
variable {P : Program} {w : World} {K : PySem.W.Frag} {mg : Str → Option Value} {base : Heap} {a : Ad} {d : Fd}
abbrev spClock (K : PySem.W.Frag) : Sp := spR (fun i : Addr × Addr => [cDl i.1 i.2]) (fun i cs' c' => isI K (fun r => 0 < r ∧ r ≤ (TOP : Int)) c' ∧ cs' = [cDl i.1 i.2])
theorem top_eq : ((TOP : Nat) : Int) = 10000000000000000000000000000000000000000 := by decide +kernel
theorem pow_mul10 {f b : Int} {i : Nat} (h1 : 1 ≤ f) (h2 : f ≤ 10 ^ i) (h3 : 1 ≤ b) (h4 : b ≤ 10) : 1 ≤ f * b ∧ f * b ≤ 10 ^ (i + 1) := by
  refine ⟨?_, ?_⟩
  · have := Int.mul_le_mul h1 h3 (by decide) (by omega)
    omega
  · rw [Int.pow_succ]
    exact Int.mul_le_mul h2 h4 (by omega) (Int.pow_nonneg (by decide))
theorem ten40 {f : Int} {i : Nat} (h1 : 1 ≤ f) (h2 : f ≤ 10 ^ i) (hi : i ≤ 40) : f.natAbs < 2 ^ 140 := by
  have h3 : (10 : Int) ^ i ≤ 10 ^ 40 := by
    have : (10 : Nat) ^ i ≤ 10 ^ 40 := Nat.pow_le_pow_right (by omega) hi
    exact_mod_cast this
  have h4 : (10 : Int) ^ 40 = 10000000000000000000000000000000000000000 := by decide
  omega
abbrev spDraw (K : PySem.W.Frag) : Sp := spR (fun i : {x : List Int × Int // x.1.length ≤ 1000 ∧ 0 ≤ x.2 ∧ x.2 ≤ 1000} => [cD K (lI i.1.1), cI K i.1.2]) (fun _ cs' c' => (∃ x y, c' = cDl x y) ∧ cs' = [cNo, cNo])
theorem sc__law_draw : FnScope ["script", "salt", "cells", "blend", "cell"] ["script", "salt"] (defScope (topS 41)) := ⟨rfl, rfl, rfl, by decide +kernel, rfl, by decide +kernel, by decide +kernel⟩
theorem ok__law_draw (T : Txt K mg a d) : FnOk P w K mg base CX0 1 a._law_draw d._law_draw ["script", "salt"] (spDraw K) := by
  refine T.F__law_draw.ok sc__law_draw (fun vs H Q E h => spR_len (n := 2) (fun _ => rfl) h) (fun cdv A outer s H vs Q E hr h => ?_)
  obtain ⟨i, B0, F0, rt, go⟩ := enter (N := ["script", "salt", "cells", "blend", "cell"]) h
  refine ⟨_, (pss_cons (ps_setLc (i := 2) (own := [("cell", 4)]) (g := (gName 4)) rfl sc__law_draw.nd rfl rfl (sw_true rfl rfl rfl (by decide +kernel)) (pi_list (pe_slice sl_list (pv 0) po_none (po_some pe_int))) (blkOk_by (own := [("cell", 4)]) (N := ["script", "salt", "cells", "blend", "cell"]) (sc := defScope (topS 41)) (by decide +kernel)) (fun _ _ _ _ _ => (pg_name (i := 4) sc__law_draw.nd rfl (Or.inl rfl))) (fun _ _ _ _ _ => pts_nil) (fun _ _ _ _ _ => (pe_callB call_abs (by rfl) T.n_abs (by decide +kernel) (pa_cons (pe_callTy call_int1 (by rfl) T.n_int (by decide +kernel) (pa_cons (pv 4) pa_nil)) pa_nil))))
    (pss_cons (ps_set (i := 3) sc__law_draw.nd rfl (Or.inl rfl) (pe_op op_add pe_int (pe_op op_mulW pe_int (pv 1))))
    (pss_cons (ps_for PassesOwn.never rfl (pi_list (pv 2)) (pg_name (i := 4) sc__law_draw.nd rfl (Or.inl rfl))
      (pss_one (ps_set (i := 3) sc__law_draw.nd rfl (Or.inl rfl) (pe_op op_mod (pe_callTy call_int1 (by rfl) T.n_int (by decide +kernel) (pa_cons (pe_op op_add (pe_op op_add (pe_op op_mulW (pv 3) pe_int) (pe_op op_mod (pv 4) pe_int)) pe_int) pa_nil)) pe_int))))
    (pss_one (ps_ret (pe_lst (pa_cons (pe_revL (pe_lc (own := [("cell", 4)]) (g := (gName 4)) rfl sc__law_draw.nd (pi_list (pv 2)) (blkOk_by (own := [("cell", 4)]) (N := ["script", "salt", "cells", "blend", "cell"]) (sc := defScope (topS 41)) (by decide +kernel)) (fun _ _ _ _ _ => (pg_name (i := 4) sc__law_draw.nd rfl (Or.inl rfl))) (fun _ _ _ _ _ => (pts_one (pt_cmpR op_ge (pv 4) (pe_op op_pow pe_int pe_int) (nomark _)))) (fun _ _ _ _ _ => (pv 4)))) (pa_cons (pv 3) pa_nil)))))))), go _ ?_⟩
  obtain ⟨⟨s0, salt⟩, h1, h2, h3⟩ := i
  have h1 : s0.length ≤ 1000 := h1
  have h2 : 0 ≤ salt := h2
  have h3 : salt ≤ 1000 := h3
  have lt : (s0.take 48).length ≤ 48 := by rw [List.length_take]; omega
  have ecut : cutD (s0.map PyData.int) none (some 48) = (s0.take 48).map PyData.int := by
    unfold cutD
    have e : HT.sIx (s0.map PyData.int).length (s0.map PyData.int).length (some 48) = min 48 (s0.map PyData.int).length := HT.sIx_nat _ _ 48
    rw [e, HT.sIx_none, List.drop_zero, Nat.sub_zero, List.map_take, List.length_map]
    by_cases q : 48 ≤ s0.length
    · rw [Nat.min_eq_left q]
    · rw [Nat.min_eq_right (by omega), List.take_of_length_le (by rw [List.length_map]; exact Nat.le_refl _), List.take_of_length_le (by rw [List.length_map]; omega)]
  refine gs_setO (ds := ((s0.take 48).map fun z => (z.natAbs : Int)).map .int) (Ev.own (ev_lc1A (s0.take 48) PyData.int (fun z => .int (z.natAbs : Int)) (ei_list (ds := (s0.take 48).map .int) ?_) (by rw [List.length_map]) (fun i c h => item_ints h) rfl (by omega) (fun z _ => ev_abs (ev_int1 (ev_var rfl)))) ?_) fun l => ?_
  · have q := (ev_slL (K := K) (te := tVar 0) (cs := [cD K (lI s0), cI K salt, cNo, cNo, cNo]) (ds := s0.map .int) (ev_rdD rfl) eo_none (eo_some (ev_int (K := K) (n := 48)))).freeze
    rw [ecut] at q
    exact q
  · rw [List.map_map]
    rfl
  · have hnn : ∀ z ∈ ((s0.take 48).map fun z => (z.natAbs : Int)), 0 ≤ z := fun z hz => by
      obtain ⟨q, _, e⟩ := List.mem_map.mp hz
      omega
    have ll : ((s0.take 48).map fun z => (z.natAbs : Int)).length ≤ 48 := by rw [List.length_map]; exact lt
    generalize ((s0.take 48).map fun z => (z.natAbs : Int)) = cl at hnn ll
    refine go_freeze (i := 2) rfl ?_
    refine gs_set (c := cI K (7919 + 104729 * salt)) (ev_int20 ev_int (ev_int2 (C := CMulW) ev_int (ev_var rfl) (small_mw (by decide) (by omega)))) ?_
    refine gs_for (js := [4]) (ei_list (ds := cl.map .int) (ev_var rfl)) (fun i cs' => ∃ (z : Int) (c4 : Cell), cs' = [cD K (lI s0), cI K salt, cD K (lI cl), cI K z, c4] ∧ 0 ≤ z ∧ z < 2147483647) ⟨_, cNo, rfl, by omega, by omega⟩ ?_ ?_
    · rintro B1 sB i c cs' hi hc ⟨z, c4, rfl, z1, z2⟩
      obtain ⟨q, hq, rfl⟩ := item_ints hc
      have u1 : 0 ≤ (z * 48271 + q % 2147483549 + 11) % 2147483647 := Int.emod_nonneg _ (by decide)
      have u2 : (z * 48271 + q % 2147483549 + 11) % 2147483647 < 2147483647 := Int.emod_lt_of_pos _ (by decide)
      refine ⟨_, tg_name, go_set (c := cI K ((z * 48271 + q % 2147483549 + 11) % 2147483647)) (ev_int2 (C := fun _ j => 0 < j) (ev_int1 (ev_int20 (ev_int20 (ev_int2 (C := CMulW) (ev_var rfl) ev_int (small_mw (by omega) (by decide))) (ev_int2 (C := fun _ j => 0 < j) (ev_var rfl) ev_int (by decide))) ev_int)) ev_int (by decide)) (go_mid ⟨_, cI K q, rfl, u1, u2⟩)⟩
    · rintro cs' ⟨z, c4, rfl, z1, z2⟩
      refine go_forget 4 ?_
      refine go_ret (ev_mkDeal (K := K) (ns := (cl.filter fun z => decide ((1000000000000000000 : Int) ≤ z)).reverse) (z := z) (Ev.own (ev_revL (Ev.rd (Ev.freeze (ev_lc1 cl PyData.int (fun z => decide ((1000000000000000000 : Int) ≤ z)) PyData.int (ei_list (ds := cl.map .int) (ev_var rfl)) (by rw [List.length_map]) (fun i c h => item_ints h) rfl (by omega) (fun q _ => et_test (ev_cmp2 (ev_var rfl) (ev_powc (K := K) (by decide) ⟨by decide, by decide, by decide⟩))) (fun q _ _ => ev_var rfl))))) (List.map_reverse ..).symm) (ev_var rfl)) fun c r => ?_
      obtain ⟨x, y, rfl⟩ := r
      refine rt_front (fun v B F fp => dl_of (fun q hq => hnn q ?_) ?_ z1 z2) (rt _ _ _ ⟨⟨x, y, rfl⟩, rfl⟩ (.no (.no .nil)))
      · exact (List.mem_filter.mp (List.mem_reverse.mp hq)).1
      · rw [List.length_reverse]
        exact Nat.le_trans (List.length_filter_le _ _) ll
/-- data that are compared: n levels at most -/
def okD : Nat → PyData → Bool
  | 0, _ => false
  | n + 1, .tuple ds => decide (ds.length ≤ 1000) && ds.all (okD n)
  | n + 1, .list ds => decide (ds.length ≤ 1000) && ds.all (okD n)
  | _ + 1, .dict _ => false
  | _ + 1, .str x => PyData.canLay0 (.str x)
  | _ + 1, .none => true
  | _ + 1, .bool _ => true
  | _ + 1, .int _ => true
abbrev spSame (K : PySem.W.Frag) (n : Nat) : Sp := spP K (fun x : PyData => okD n x = true) (fun x => [x, x]) (fun _ => .bool true)
theorem ok_same0 : FnOk P w K mg base CX0 0 a._law_same d._law_same ["value", "due"] (spSame K 0) := by
  have no : ∀ {vs H Q E}, ¬ spSame K 0 vs H Q E := fun h => by
    obtain ⟨⟨i, hi⟩, _⟩ := h
    cases hi
  exact ⟨fun vs H Q E h => absurd h no, fun A outer s H args us vs Q E _ _ _ _ h => absurd h no⟩
theorem zip_self {ds : List PyData} {x : PyData × PyData} (h : x ∈ ds.zip ds) : x.1 = x.2 ∧ x.1 ∈ ds := by
  obtain ⟨i, hi, e⟩ := List.getElem_of_mem h
  rw [List.getElem_zip] at e
  subst e
  exact ⟨rfl, List.getElem_mem _⟩
theorem k_tl : ∀ d : PyData, kitB (tyD d) "list" = some (match d with | .list _ => true | _ => false) := fun d => by cases d <;> rfl
theorem k_str : ∀ d : PyData, kitB (tyD d) "str" = some (match d with | .str _ => true | _ => false) := fun d => by cases d <;> rfl
theorem eqv_refl_str {x : Str} : PyData.eqv (.str x) (.str x) = true := by
  show (x == x) = true
  exact beq_self_eq_true x
theorem filt_no {α : Type} (l : List α) : (l.filter fun _ => false) = [] := by
  induction l with
  | nil => rfl
  | cons a l ih => exact ih
theorem sc__law_same : FnScope ["value", "due", "one", "other"] ["value", "due"] (defScope (topS 44)) := ⟨rfl, rfl, rfl, by decide +kernel, rfl, by decide +kernel, by decide +kernel⟩
theorem ok__law_sameS {n : Nat} (G : FnOk P w K mg base CX0 n a._law_same d._law_same ["value", "due"] (spSame K n)) (T : Txt K mg a d) : FnOk P w K mg base CX0 (n + 1) a._law_same d._law_same ["value", "due"] (spSame K (n + 1)) := by
  refine T.F__law_same.ok sc__law_same (fun vs H Q E h => spD_len (n := 2) (fun _ => rfl) h) (fun cdv A outer s H vs Q E hr h => ?_)
  obtain ⟨i, B0, F0, rt, go⟩ := enterD (N := ["value", "due", "one", "other"]) h
  obtain ⟨i, hi⟩ := i
  have rt' : ∀ (c2 c3 : Cell), RtOk B0 F0 (cB K true :: [cD K i, cD K i, c2, c3]) Q := fun c2 c3 => rt _ (by simp)
  cases i with
  | tuple ds =>
    have hi2 : (decide (ds.length ≤ 1000) && ds.all (okD n)) = true := hi
    rw [Bool.and_eq_true] at hi2
    have hl : ds.length ≤ 1000 := of_decide_eq_true hi2.1
    refine ⟨_, (pss_cons (ps_if (pt_val (pe_callB call_isiT (by rfl) T.n_isinstance (by decide +kernel) (pa_cons (pv 1) (pa_cons (pe_tup (pa_cons (pe_bltn (v := .ty "tuple") (u := .type "tuple") (by rfl) T.n_tuple (by decide +kernel) rfl) (pa_cons (pe_bltn (v := .ty "list") (u := .type "list") (by rfl) T.n_list (by decide +kernel) rfl) pa_nil))) pa_nil))))
      (pss_cons (ps_if (PW.pt (pw_or (pt_cmpR (op_neD hr.units) (pe_callB call_isi (by rfl) T.n_isinstance (by decide +kernel) (pa_cons (pv 1) (pa_cons (pe_bltn (v := .ty "tuple") (u := .type "tuple") (by rfl) T.n_tuple (by decide +kernel) rfl) pa_nil))) (pe_callB call_isi (by rfl) T.n_isinstance (by decide +kernel) (pa_cons (pv 0) (pa_cons (pe_bltn (v := .ty "tuple") (u := .type "tuple") (by rfl) T.n_tuple (by decide +kernel) rfl) pa_nil))) (nomark _)) (pw_or (pt_not (pt_val (pe_callB call_isiT (by rfl) T.n_isinstance (by decide +kernel) (pa_cons (pv 0) (pa_cons (pe_tup (pa_cons (pe_bltn (v := .ty "tuple") (u := .type "tuple") (by rfl) T.n_tuple (by decide +kernel) rfl) (pa_cons (pe_bltn (v := .ty "list") (u := .type "list") (by rfl) T.n_list (by decide +kernel) rfl) pa_nil))) pa_nil))))) (pw_or1 (pt_cmpR (op_neD hr.units) (pe_callB call_len_seq (by rfl) T.n_len PySem.boot_len (pa_cons (pv 0) pa_nil)) (pe_callB call_len_seq (by rfl) T.n_len PySem.boot_len (pa_cons (pv 1) pa_nil)) (nomark _))))))
        (pss_one (ps_ret pe_bl))
        pss_nil)
      (pss_one (ps_ret (pe_cmpR (op_eqD hr.units) (pe_lc (own := [("one", 2), ("other", 3)]) (g := (gTup _ 2 (gCons (gName 2) (gCons (gName 3) gNil)))) rfl sc__law_same.nd (pi_zipM true true (by rfl) T.n_zip (pa_cons (pv 0) (pa_cons (pv 1) pa_nil))) (blkOk_by (own := [("one", 2), ("other", 3)]) (N := ["value", "due", "one", "other"]) (sc := defScope (topS 44)) (by decide +kernel)) (fun _ _ _ _ _ => (pg_tup rfl (pgs_cons (pg_name (i := 2) sc__law_same.nd rfl (Or.inl rfl)) (pgs_cons (pg_name (i := 3) sc__law_same.nd rfl (Or.inl rfl)) pgs_nil)))) (fun _ _ _ _ _ => (pts_one (pt_not (pt_val (pe_call G hr rfl T.m__law_same T.F__law_same.kp T.b__law_same .nil pass0 (pa_cons (pv 2) (pa_cons (pv 3) pa_nil))))))) (fun _ _ _ _ _ => pe_int)) (pe_lst pa_nil) (nomark _)))))
      pss_nil)
    (pss_cons (ps_if (pt_cmpR op_isN (pv 1) pe_non (nomark _))
      (pss_one (ps_ret (pe_cmpR op_isN (pv 0) pe_non (nomark _))))
      pss_nil)
    (pss_cons (ps_if (pt_cmpR op_isA (pv 1) pe_bl (nomark _))
      (pss_one (ps_ret (pe_cmpR op_isA (pv 0) pe_bl (nomark _))))
      pss_nil)
    (pss_cons (ps_if (pt_cmpR op_isA (pv 1) pe_bl (nomark _))
      (pss_one (ps_ret (pe_cmpR op_isA (pv 0) pe_bl (nomark _))))
      pss_nil)
    (pss_cons (ps_if (pt_val (pe_callB call_isi (by rfl) T.n_isinstance (by decide +kernel) (pa_cons (pv 1) (pa_cons (pe_bltn (v := .ty "int") (u := .type "int") (by rfl) T.n_int (by decide +kernel) rfl) pa_nil))))
      (pss_one (ps_ret (pe_and (pe_callB call_isi (by rfl) T.n_isinstance (by decide +kernel) (pa_cons (pv 0) (pa_cons (pe_bltn (v := .ty "int") (u := .type "int") (by rfl) T.n_int (by decide +kernel) rfl) pa_nil))) (pe_and (pe_not (pe_callB call_isi (by rfl) T.n_isinstance (by decide +kernel) (pa_cons (pv 0) (pa_cons (pe_bltn (v := .ty "bool") (u := .type "bool") (by rfl) T.n_bool (by decide +kernel) rfl) pa_nil)))) (pe_one (pe_cmpR (op_eqD hr.units) (pv 0) (pv 1) (nomark _)))))))
      pss_nil)
    (pss_one (ps_ret (pe_and (pe_callB call_isi (by rfl) T.n_isinstance (by decide +kernel) (pa_cons (pv 0) (pa_cons (pe_bltn (v := .ty "str") (u := .type "str") (by rfl) T.n_str (by decide +kernel) rfl) pa_nil))) (pe_one (pe_cmpR (op_eqD hr.units) (pv 0) (pv 1) (nomark _))))))))))), go _ ?_⟩
    refine gs_ifE (b := true) (et_is (et_B (ev_isi2 (ev_rdD (d := .tuple ds) rfl) (k_tuple _) (k_tl _))) rfl) (fun _ => ?_) (fun z => nomatch z)
    refine gs_skip (et_is (et_or (a := false) (b := false) (et_is (et_test (ev_ne (ev_isi (ev_rdD (d := .tuple ds) rfl) (k_tuple _)).rd (ev_isi (ev_rdD (d := .tuple ds) rfl) (k_tuple _)).rd rfl rfl)) rfl) fun _ => et_or (a := false) (b := false) (et_is (et_not (et_B (ev_isi2 (ev_rdD (d := .tuple ds) rfl) (k_tuple _) (k_tl _)))) rfl) fun _ => et_is (et_test (ev_neI (ev_lenT (ds := ds) (ev_var rfl)) (ev_lenT (ds := ds) (ev_var rfl)))) (by simp)) rfl) ?_
    refine go_retI ((ev_eq (d := .list []) (e := .list []) (Ev.rd (Ev.freeze (Ev.own (ev_lc2 (K := K) (ds.zip ds) (fun x => x.1) (fun x => x.2) (fun _ => false) (fun _ => .int 0) (ei_zip (b1 := true) (b2 := true) (ds := ds) (es := ds) (ev_var rfl) (ev_var rfl)) (List.length_zip ..).symm (fun i c h => zip_item h) rfl rfl (by rw [List.length_zip]; omega) (fun x hx => ?_) (fun x _ h => nomatch h)) ?_))) (ev_lst (K := K) (ds := []) ea_nil (by decide)).freeze.rd rfl rfl).bo rfl) (rt' _ _)
    · obtain ⟨e1, e2⟩ := zip_self hx
      have ho : okD n x.1 = true := List.all_eq_true.mp hi2.2 _ e2
      exact et_is (et_not (et_B (ev_callP x.1 ho (ea_cons (ev_var rfl) (ea_cons ((ev_var rfl).eq e1.symm) ea_nil))))) rfl
    · rw [filt_no]
      rfl
  | list ds =>
    have hi2 : (decide (ds.length ≤ 1000) && ds.all (okD n)) = true := hi
    rw [Bool.and_eq_true] at hi2
    have hl : ds.length ≤ 1000 := of_decide_eq_true hi2.1
    refine ⟨_, (pss_cons (ps_if (pt_val (pe_callB call_isiT (by rfl) T.n_isinstance (by decide +kernel) (pa_cons (pv 1) (pa_cons (pe_tup (pa_cons (pe_bltn (v := .ty "tuple") (u := .type "tuple") (by rfl) T.n_tuple (by decide +kernel) rfl) (pa_cons (pe_bltn (v := .ty "list") (u := .type "list") (by rfl) T.n_list (by decide +kernel) rfl) pa_nil))) pa_nil))))
      (pss_cons (ps_if (PW.pt (pw_or (pt_cmpR (op_neD hr.units) (pe_callB call_isi (by rfl) T.n_isinstance (by decide +kernel) (pa_cons (pv 1) (pa_cons (pe_bltn (v := .ty "tuple") (u := .type "tuple") (by rfl) T.n_tuple (by decide +kernel) rfl) pa_nil))) (pe_callB call_isi (by rfl) T.n_isinstance (by decide +kernel) (pa_cons (pv 0) (pa_cons (pe_bltn (v := .ty "tuple") (u := .type "tuple") (by rfl) T.n_tuple (by decide +kernel) rfl) pa_nil))) (nomark _)) (pw_or (pt_not (pt_val (pe_callB call_isiT (by rfl) T.n_isinstance (by decide +kernel) (pa_cons (pv 0) (pa_cons (pe_tup (pa_cons (pe_bltn (v := .ty "tuple") (u := .type "tuple") (by rfl) T.n_tuple (by decide +kernel) rfl) (pa_cons (pe_bltn (v := .ty "list") (u := .type "list") (by rfl) T.n_list (by decide +kernel) rfl) pa_nil))) pa_nil))))) (pw_or1 (pt_cmpR (op_neD hr.units) (pe_callB call_len_seq (by rfl) T.n_len PySem.boot_len (pa_cons (pv 0) pa_nil)) (pe_callB call_len_seq (by rfl) T.n_len PySem.boot_len (pa_cons (pv 1) pa_nil)) (nomark _))))))
        (pss_one (ps_ret pe_bl))
        pss_nil)
      (pss_one (ps_ret (pe_cmpR (op_eqD hr.units) (pe_lc (own := [("one", 2), ("other", 3)]) (g := (gTup _ 2 (gCons (gName 2) (gCons (gName 3) gNil)))) rfl sc__law_same.nd (pi_zipM false false (by rfl) T.n_zip (pa_cons (pv 0) (pa_cons (pv 1) pa_nil))) (blkOk_by (own := [("one", 2), ("other", 3)]) (N := ["value", "due", "one", "other"]) (sc := defScope (topS 44)) (by decide +kernel)) (fun _ _ _ _ _ => (pg_tup rfl (pgs_cons (pg_name (i := 2) sc__law_same.nd rfl (Or.inl rfl)) (pgs_cons (pg_name (i := 3) sc__law_same.nd rfl (Or.inl rfl)) pgs_nil)))) (fun _ _ _ _ _ => (pts_one (pt_not (pt_val (pe_call G hr rfl T.m__law_same T.F__law_same.kp T.b__law_same .nil pass0 (pa_cons (pv 2) (pa_cons (pv 3) pa_nil))))))) (fun _ _ _ _ _ => pe_int)) (pe_lst pa_nil) (nomark _)))))
      pss_nil)
    (pss_cons (ps_if (pt_cmpR op_isN (pv 1) pe_non (nomark _))
      (pss_one (ps_ret (pe_cmpR op_isN (pv 0) pe_non (nomark _))))
      pss_nil)
    (pss_cons (ps_if (pt_cmpR op_isA (pv 1) pe_bl (nomark _))
      (pss_one (ps_ret (pe_cmpR op_isA (pv 0) pe_bl (nomark _))))
      pss_nil)
    (pss_cons (ps_if (pt_cmpR op_isA (pv 1) pe_bl (nomark _))
      (pss_one (ps_ret (pe_cmpR op_isA (pv 0) pe_bl (nomark _))))
      pss_nil)
    (pss_cons (ps_if (pt_val (pe_callB call_isi (by rfl) T.n_isinstance (by decide +kernel) (pa_cons (pv 1) (pa_cons (pe_bltn (v := .ty "int") (u := .type "int") (by rfl) T.n_int (by decide +kernel) rfl) pa_nil))))
      (pss_one (ps_ret (pe_and (pe_callB call_isi (by rfl) T.n_isinstance (by decide +kernel) (pa_cons (pv 0) (pa_cons (pe_bltn (v := .ty "int") (u := .type "int") (by rfl) T.n_int (by decide +kernel) rfl) pa_nil))) (pe_and (pe_not (pe_callB call_isi (by rfl) T.n_isinstance (by decide +kernel) (pa_cons (pv 0) (pa_cons (pe_bltn (v := .ty "bool") (u := .type "bool") (by rfl) T.n_bool (by decide +kernel) rfl) pa_nil)))) (pe_one (pe_cmpR (op_eqD hr.units) (pv 0) (pv 1) (nomark _)))))))
      pss_nil)
    (pss_one (ps_ret (pe_and (pe_callB call_isi (by rfl) T.n_isinstance (by decide +kernel) (pa_cons (pv 0) (pa_cons (pe_bltn (v := .ty "str") (u := .type "str") (by rfl) T.n_str (by decide +kernel) rfl) pa_nil))) (pe_one (pe_cmpR (op_eqD hr.units) (pv 0) (pv 1) (nomark _))))))))))), go _ ?_⟩
    refine gs_ifE (b := true) (et_is (et_B (ev_isi2 (ev_rdD (d := .list ds) rfl) (k_tuple _) (k_tl _))) rfl) (fun _ => ?_) (fun z => nomatch z)
    refine gs_skip (et_is (et_or (a := false) (b := false) (et_is (et_test (ev_ne (ev_isi (ev_rdD (d := .list ds) rfl) (k_tuple _)).rd (ev_isi (ev_rdD (d := .list ds) rfl) (k_tuple _)).rd rfl rfl)) rfl) fun _ => et_or (a := false) (b := false) (et_is (et_not (et_B (ev_isi2 (ev_rdD (d := .list ds) rfl) (k_tuple _) (k_tl _)))) rfl) fun _ => et_is (et_test (ev_neI (ev_lenL (ds := ds) (ev_rdD rfl)) (ev_lenL (ds := ds) (ev_rdD rfl)))) (by simp)) rfl) ?_
    refine go_retI ((ev_eq (d := .list []) (e := .list []) (Ev.rd (Ev.freeze (Ev.own (ev_lc2 (K := K) (ds.zip ds) (fun x => x.1) (fun x => x.2) (fun _ => false) (fun _ => .int 0) (ei_zip (b1 := false) (b2 := false) (ds := ds) (es := ds) (ev_var rfl) (ev_var rfl)) (List.length_zip ..).symm (fun i c h => zip_item h) rfl rfl (by rw [List.length_zip]; omega) (fun x hx => ?_) (fun x _ h => nomatch h)) ?_))) (ev_lst (K := K) (ds := []) ea_nil (by decide)).freeze.rd rfl rfl).bo rfl) (rt' _ _)
    · obtain ⟨e1, e2⟩ := zip_self hx
      have ho : okD n x.1 = true := List.all_eq_true.mp hi2.2 _ e2
      exact et_is (et_not (et_B (ev_callP x.1 ho (ea_cons (ev_var rfl) (ea_cons ((ev_var rfl).eq e1.symm) ea_nil))))) rfl
    · rw [filt_no]
      rfl
  | dict kv => cases hi
  | none =>
    refine ⟨_, (pss_cons (ps_if (pt_val (pe_callB call_isiT (by rfl) T.n_isinstance (by decide +kernel) (pa_cons (pv 1) (pa_cons (pe_tup (pa_cons (pe_bltn (v := .ty "tuple") (u := .type "tuple") (by rfl) T.n_tuple (by decide +kernel) rfl) (pa_cons (pe_bltn (v := .ty "list") (u := .type "list") (by rfl) T.n_list (by decide +kernel) rfl) pa_nil))) pa_nil))))
      (pss_cons (ps_if (PW.pt (pw_or (pt_cmpR (op_neD hr.units) (pe_callB call_isi (by rfl) T.n_isinstance (by decide +kernel) (pa_cons (pv 1) (pa_cons (pe_bltn (v := .ty "tuple") (u := .type "tuple") (by rfl) T.n_tuple (by decide +kernel) rfl) pa_nil))) (pe_callB call_isi (by rfl) T.n_isinstance (by decide +kernel) (pa_cons (pv 0) (pa_cons (pe_bltn (v := .ty "tuple") (u := .type "tuple") (by rfl) T.n_tuple (by decide +kernel) rfl) pa_nil))) (nomark _)) (pw_or (pt_not (pt_val (pe_callB call_isiT (by rfl) T.n_isinstance (by decide +kernel) (pa_cons (pv 0) (pa_cons (pe_tup (pa_cons (pe_bltn (v := .ty "tuple") (u := .type "tuple") (by rfl) T.n_tuple (by decide +kernel) rfl) (pa_cons (pe_bltn (v := .ty "list") (u := .type "list") (by rfl) T.n_list (by decide +kernel) rfl) pa_nil))) pa_nil))))) (pw_or1 (pt_cmpR (op_neD hr.units) (pe_callB call_len_seq (by rfl) T.n_len PySem.boot_len (pa_cons (pv 0) pa_nil)) (pe_callB call_len_seq (by rfl) T.n_len PySem.boot_len (pa_cons (pv 1) pa_nil)) (nomark _))))))
        (pss_one (ps_ret pe_bl))
        pss_nil)
      (pss_one (ps_ret (pe_cmpR (op_eqD hr.units) (pe_lc (own := [("one", 2), ("other", 3)]) (g := (gTup _ 2 (gCons (gName 2) (gCons (gName 3) gNil)))) rfl sc__law_same.nd (pi_zipM true true (by rfl) T.n_zip (pa_cons (pv 0) (pa_cons (pv 1) pa_nil))) (blkOk_by (own := [("one", 2), ("other", 3)]) (N := ["value", "due", "one", "other"]) (sc := defScope (topS 44)) (by decide +kernel)) (fun _ _ _ _ _ => (pg_tup rfl (pgs_cons (pg_name (i := 2) sc__law_same.nd rfl (Or.inl rfl)) (pgs_cons (pg_name (i := 3) sc__law_same.nd rfl (Or.inl rfl)) pgs_nil)))) (fun _ _ _ _ _ => (pts_one (pt_not (pt_val (pe_call G hr rfl T.m__law_same T.F__law_same.kp T.b__law_same .nil pass0 (pa_cons (pv 2) (pa_cons (pv 3) pa_nil))))))) (fun _ _ _ _ _ => pe_int)) (pe_lst pa_nil) (nomark _)))))
      pss_nil)
    (pss_cons (ps_if (pt_cmpR op_isN (pv 1) pe_non (nomark _))
      (pss_one (ps_ret (pe_cmpR op_isN (pv 0) pe_non (nomark _))))
      pss_nil)
    (pss_cons (ps_if (pt_cmpR op_isA (pv 1) pe_bl (nomark _))
      (pss_one (ps_ret (pe_cmpR op_isA (pv 0) pe_bl (nomark _))))
      pss_nil)
    (pss_cons (ps_if (pt_cmpR op_isA (pv 1) pe_bl (nomark _))
      (pss_one (ps_ret (pe_cmpR op_isA (pv 0) pe_bl (nomark _))))
      pss_nil)
    (pss_cons (ps_if (pt_val (pe_callB call_isi (by rfl) T.n_isinstance (by decide +kernel) (pa_cons (pv 1) (pa_cons (pe_bltn (v := .ty "int") (u := .type "int") (by rfl) T.n_int (by decide +kernel) rfl) pa_nil))))
      (pss_one (ps_ret (pe_and (pe_callB call_isi (by rfl) T.n_isinstance (by decide +kernel) (pa_cons (pv 0) (pa_cons (pe_bltn (v := .ty "int") (u := .type "int") (by rfl) T.n_int (by decide +kernel) rfl) pa_nil))) (pe_and (pe_not (pe_callB call_isi (by rfl) T.n_isinstance (by decide +kernel) (pa_cons (pv 0) (pa_cons (pe_bltn (v := .ty "bool") (u := .type "bool") (by rfl) T.n_bool (by decide +kernel) rfl) pa_nil)))) (pe_one (pe_cmpR (op_eqD hr.units) (pv 0) (pv 1) (nomark _)))))))
      pss_nil)
    (pss_one (ps_ret (pe_and (pe_callB call_isi (by rfl) T.n_isinstance (by decide +kernel) (pa_cons (pv 0) (pa_cons (pe_bltn (v := .ty "str") (u := .type "str") (by rfl) T.n_str (by decide +kernel) rfl) pa_nil))) (pe_one (pe_cmpR (op_eqD hr.units) (pv 0) (pv 1) (nomark _))))))))))), go _ ?_⟩
    refine gs_skip (et_is (et_B (ev_isi2 (ev_rdD (d := .none) rfl) (k_tuple _) (k_tl _))) rfl) ?_
    exact gs_ifE (b := true) (et_test (ev_isN (ev_rdD (d := .none) rfl))) (fun _ => go_retI (ev_isN (ev_rdD (d := .none) rfl)) (rt' _ _)) (fun z => nomatch z)
  | bool b =>
    refine ⟨_, (pss_cons (ps_if (pt_val (pe_callB call_isiT (by rfl) T.n_isinstance (by decide +kernel) (pa_cons (pv 1) (pa_cons (pe_tup (pa_cons (pe_bltn (v := .ty "tuple") (u := .type "tuple") (by rfl) T.n_tuple (by decide +kernel) rfl) (pa_cons (pe_bltn (v := .ty "list") (u := .type "list") (by rfl) T.n_list (by decide +kernel) rfl) pa_nil))) pa_nil))))
      (pss_cons (ps_if (PW.pt (pw_or (pt_cmpR (op_neD hr.units) (pe_callB call_isi (by rfl) T.n_isinstance (by decide +kernel) (pa_cons (pv 1) (pa_cons (pe_bltn (v := .ty "tuple") (u := .type "tuple") (by rfl) T.n_tuple (by decide +kernel) rfl) pa_nil))) (pe_callB call_isi (by rfl) T.n_isinstance (by decide +kernel) (pa_cons (pv 0) (pa_cons (pe_bltn (v := .ty "tuple") (u := .type "tuple") (by rfl) T.n_tuple (by decide +kernel) rfl) pa_nil))) (nomark _)) (pw_or (pt_not (pt_val (pe_callB call_isiT (by rfl) T.n_isinstance (by decide +kernel) (pa_cons (pv 0) (pa_cons (pe_tup (pa_cons (pe_bltn (v := .ty "tuple") (u := .type "tuple") (by rfl) T.n_tuple (by decide +kernel) rfl) (pa_cons (pe_bltn (v := .ty "list") (u := .type "list") (by rfl) T.n_list (by decide +kernel) rfl) pa_nil))) pa_nil))))) (pw_or1 (pt_cmpR (op_neD hr.units) (pe_callB call_len_seq (by rfl) T.n_len PySem.boot_len (pa_cons (pv 0) pa_nil)) (pe_callB call_len_seq (by rfl) T.n_len PySem.boot_len (pa_cons (pv 1) pa_nil)) (nomark _))))))
        (pss_one (ps_ret pe_bl))
        pss_nil)
      (pss_one (ps_ret (pe_cmpR (op_eqD hr.units) (pe_lc (own := [("one", 2), ("other", 3)]) (g := (gTup _ 2 (gCons (gName 2) (gCons (gName 3) gNil)))) rfl sc__law_same.nd (pi_zipM true true (by rfl) T.n_zip (pa_cons (pv 0) (pa_cons (pv 1) pa_nil))) (blkOk_by (own := [("one", 2), ("other", 3)]) (N := ["value", "due", "one", "other"]) (sc := defScope (topS 44)) (by decide +kernel)) (fun _ _ _ _ _ => (pg_tup rfl (pgs_cons (pg_name (i := 2) sc__law_same.nd rfl (Or.inl rfl)) (pgs_cons (pg_name (i := 3) sc__law_same.nd rfl (Or.inl rfl)) pgs_nil)))) (fun _ _ _ _ _ => (pts_one (pt_not (pt_val (pe_call G hr rfl T.m__law_same T.F__law_same.kp T.b__law_same .nil pass0 (pa_cons (pv 2) (pa_cons (pv 3) pa_nil))))))) (fun _ _ _ _ _ => pe_int)) (pe_lst pa_nil) (nomark _)))))
      pss_nil)
    (pss_cons (ps_if (pt_cmpR op_isN (pv 1) pe_non (nomark _))
      (pss_one (ps_ret (pe_cmpR op_isN (pv 0) pe_non (nomark _))))
      pss_nil)
    (pss_cons (ps_if (pt_cmpR op_isA (pv 1) pe_bl (nomark _))
      (pss_one (ps_ret (pe_cmpR op_isA (pv 0) pe_bl (nomark _))))
      pss_nil)
    (pss_cons (ps_if (pt_cmpR op_isA (pv 1) pe_bl (nomark _))
      (pss_one (ps_ret (pe_cmpR op_isA (pv 0) pe_bl (nomark _))))
      pss_nil)
    (pss_cons (ps_if (pt_val (pe_callB call_isi (by rfl) T.n_isinstance (by decide +kernel) (pa_cons (pv 1) (pa_cons (pe_bltn (v := .ty "int") (u := .type "int") (by rfl) T.n_int (by decide +kernel) rfl) pa_nil))))
      (pss_one (ps_ret (pe_and (pe_callB call_isi (by rfl) T.n_isinstance (by decide +kernel) (pa_cons (pv 0) (pa_cons (pe_bltn (v := .ty "int") (u := .type "int") (by rfl) T.n_int (by decide +kernel) rfl) pa_nil))) (pe_and (pe_not (pe_callB call_isi (by rfl) T.n_isinstance (by decide +kernel) (pa_cons (pv 0) (pa_cons (pe_bltn (v := .ty "bool") (u := .type "bool") (by rfl) T.n_bool (by decide +kernel) rfl) pa_nil)))) (pe_one (pe_cmpR (op_eqD hr.units) (pv 0) (pv 1) (nomark _)))))))
      pss_nil)
    (pss_one (ps_ret (pe_and (pe_callB call_isi (by rfl) T.n_isinstance (by decide +kernel) (pa_cons (pv 0) (pa_cons (pe_bltn (v := .ty "str") (u := .type "str") (by rfl) T.n_str (by decide +kernel) rfl) pa_nil))) (pe_one (pe_cmpR (op_eqD hr.units) (pv 0) (pv 1) (nomark _))))))))))), go _ ?_⟩
    refine gs_skip (et_is (et_B (ev_isi2 (ev_rdD (d := .bool b) rfl) (k_tuple _) (k_tl _))) rfl) ?_
    refine gs_skip (et_test (ev_isN (ev_rdD (d := .bool b) rfl))) ?_
    cases b with
    | true => exact gs_ifE (b := true) (et_test (ev_isB (ev_rdD (d := .bool true) rfl))) (fun _ => go_retI (ev_isB (ev_rdD (d := .bool true) rfl)) (rt' _ _)) (fun z => nomatch z)
    | false =>
      refine gs_skip (et_test (ev_isB (ev_rdD (d := .bool false) rfl))) ?_
      exact gs_ifE (b := true) (et_test (ev_isB (ev_rdD (d := .bool false) rfl))) (fun _ => go_retI (ev_isB (ev_rdD (d := .bool false) rfl)) (rt' _ _)) (fun z => nomatch z)
  | int z =>
    refine ⟨_, (pss_cons (ps_if (pt_val (pe_callB call_isiT (by rfl) T.n_isinstance (by decide +kernel) (pa_cons (pv 1) (pa_cons (pe_tup (pa_cons (pe_bltn (v := .ty "tuple") (u := .type "tuple") (by rfl) T.n_tuple (by decide +kernel) rfl) (pa_cons (pe_bltn (v := .ty "list") (u := .type "list") (by rfl) T.n_list (by decide +kernel) rfl) pa_nil))) pa_nil))))
      (pss_cons (ps_if (PW.pt (pw_or (pt_cmpR (op_neD hr.units) (pe_callB call_isi (by rfl) T.n_isinstance (by decide +kernel) (pa_cons (pv 1) (pa_cons (pe_bltn (v := .ty "tuple") (u := .type "tuple") (by rfl) T.n_tuple (by decide +kernel) rfl) pa_nil))) (pe_callB call_isi (by rfl) T.n_isinstance (by decide +kernel) (pa_cons (pv 0) (pa_cons (pe_bltn (v := .ty "tuple") (u := .type "tuple") (by rfl) T.n_tuple (by decide +kernel) rfl) pa_nil))) (nomark _)) (pw_or (pt_not (pt_val (pe_callB call_isiT (by rfl) T.n_isinstance (by decide +kernel) (pa_cons (pv 0) (pa_cons (pe_tup (pa_cons (pe_bltn (v := .ty "tuple") (u := .type "tuple") (by rfl) T.n_tuple (by decide +kernel) rfl) (pa_cons (pe_bltn (v := .ty "list") (u := .type "list") (by rfl) T.n_list (by decide +kernel) rfl) pa_nil))) pa_nil))))) (pw_or1 (pt_cmpR (op_neD hr.units) (pe_callB call_len_seq (by rfl) T.n_len PySem.boot_len (pa_cons (pv 0) pa_nil)) (pe_callB call_len_seq (by rfl) T.n_len PySem.boot_len (pa_cons (pv 1) pa_nil)) (nomark _))))))
        (pss_one (ps_ret pe_bl))
        pss_nil)
      (pss_one (ps_ret (pe_cmpR (op_eqD hr.units) (pe_lc (own := [("one", 2), ("other", 3)]) (g := (gTup _ 2 (gCons (gName 2) (gCons (gName 3) gNil)))) rfl sc__law_same.nd (pi_zipM true true (by rfl) T.n_zip (pa_cons (pv 0) (pa_cons (pv 1) pa_nil))) (blkOk_by (own := [("one", 2), ("other", 3)]) (N := ["value", "due", "one", "other"]) (sc := defScope (topS 44)) (by decide +kernel)) (fun _ _ _ _ _ => (pg_tup rfl (pgs_cons (pg_name (i := 2) sc__law_same.nd rfl (Or.inl rfl)) (pgs_cons (pg_name (i := 3) sc__law_same.nd rfl (Or.inl rfl)) pgs_nil)))) (fun _ _ _ _ _ => (pts_one (pt_not (pt_val (pe_call G hr rfl T.m__law_same T.F__law_same.kp T.b__law_same .nil pass0 (pa_cons (pv 2) (pa_cons (pv 3) pa_nil))))))) (fun _ _ _ _ _ => pe_int)) (pe_lst pa_nil) (nomark _)))))
      pss_nil)
    (pss_cons (ps_if (pt_cmpR op_isN (pv 1) pe_non (nomark _))
      (pss_one (ps_ret (pe_cmpR op_isN (pv 0) pe_non (nomark _))))
      pss_nil)
    (pss_cons (ps_if (pt_cmpR op_isA (pv 1) pe_bl (nomark _))
      (pss_one (ps_ret (pe_cmpR op_isA (pv 0) pe_bl (nomark _))))
      pss_nil)
    (pss_cons (ps_if (pt_cmpR op_isA (pv 1) pe_bl (nomark _))
      (pss_one (ps_ret (pe_cmpR op_isA (pv 0) pe_bl (nomark _))))
      pss_nil)
    (pss_cons (ps_if (pt_val (pe_callB call_isi (by rfl) T.n_isinstance (by decide +kernel) (pa_cons (pv 1) (pa_cons (pe_bltn (v := .ty "int") (u := .type "int") (by rfl) T.n_int (by decide +kernel) rfl) pa_nil))))
      (pss_one (ps_ret (pe_and (pe_callB call_isi (by rfl) T.n_isinstance (by decide +kernel) (pa_cons (pv 0) (pa_cons (pe_bltn (v := .ty "int") (u := .type "int") (by rfl) T.n_int (by decide +kernel) rfl) pa_nil))) (pe_and (pe_not (pe_callB call_isi (by rfl) T.n_isinstance (by decide +kernel) (pa_cons (pv 0) (pa_cons (pe_bltn (v := .ty "bool") (u := .type "bool") (by rfl) T.n_bool (by decide +kernel) rfl) pa_nil)))) (pe_one (pe_cmpR (op_eqD hr.units) (pv 0) (pv 1) (nomark _)))))))
      pss_nil)
    (pss_one (ps_ret (pe_and (pe_callB call_isi (by rfl) T.n_isinstance (by decide +kernel) (pa_cons (pv 0) (pa_cons (pe_bltn (v := .ty "str") (u := .type "str") (by rfl) T.n_str (by decide +kernel) rfl) pa_nil))) (pe_one (pe_cmpR (op_eqD hr.units) (pv 0) (pv 1) (nomark _))))))))))), go _ ?_⟩
    refine gs_skip (et_is (et_B (ev_isi2 (ev_rdD (d := .int z) rfl) (k_tuple _) (k_tl _))) rfl) ?_
    refine gs_skip (et_test (ev_isN (ev_rdD (d := .int z) rfl))) ?_
    refine gs_skip (et_test (ev_isB (ev_rdD (d := .int z) rfl))) ?_
    refine gs_skip (et_test (ev_isB (ev_rdD (d := .int z) rfl))) ?_
    refine gs_ifE (b := true) (et_is (et_B (ev_isi (ev_rdD (d := .int z) rfl) (k_int _))) rfl) (fun _ => go_retI ((ev_andV (a := true) (b := true) (ev_isi (ev_rdD (d := .int z) rfl) (k_int _)) fun _ => (ev_andV (a := true) (b := true) ((ev_notV (ev_isi (ev_rdD (d := .int z) rfl) (k_bool _))).bo rfl) fun _ => (ev_eqI (ev_var (d := .int z) rfl) (ev_var (d := .int z) rfl)).bo (by simp)).bo rfl).bo rfl) (rt' _ _)) (fun z => nomatch z)
  | str x =>
    have hs : SeqAt.shaped (.str x) = true := by
      have h : PyData.canLay0 (.str x) = true := hi
      show (PyData.canLay0 (.str x) && decide (0 ≤ 64)) = true
      rw [h]
      rfl
    refine ⟨_, (pss_cons (ps_if (pt_val (pe_callB call_isiT (by rfl) T.n_isinstance (by decide +kernel) (pa_cons (pv 1) (pa_cons (pe_tup (pa_cons (pe_bltn (v := .ty "tuple") (u := .type "tuple") (by rfl) T.n_tuple (by decide +kernel) rfl) (pa_cons (pe_bltn (v := .ty "list") (u := .type "list") (by rfl) T.n_list (by decide +kernel) rfl) pa_nil))) pa_nil))))
      (pss_cons (ps_if (PW.pt (pw_or (pt_cmpR (op_neD hr.units) (pe_callB call_isi (by rfl) T.n_isinstance (by decide +kernel) (pa_cons (pv 1) (pa_cons (pe_bltn (v := .ty "tuple") (u := .type "tuple") (by rfl) T.n_tuple (by decide +kernel) rfl) pa_nil))) (pe_callB call_isi (by rfl) T.n_isinstance (by decide +kernel) (pa_cons (pv 0) (pa_cons (pe_bltn (v := .ty "tuple") (u := .type "tuple") (by rfl) T.n_tuple (by decide +kernel) rfl) pa_nil))) (nomark _)) (pw_or (pt_not (pt_val (pe_callB call_isiT (by rfl) T.n_isinstance (by decide +kernel) (pa_cons (pv 0) (pa_cons (pe_tup (pa_cons (pe_bltn (v := .ty "tuple") (u := .type "tuple") (by rfl) T.n_tuple (by decide +kernel) rfl) (pa_cons (pe_bltn (v := .ty "list") (u := .type "list") (by rfl) T.n_list (by decide +kernel) rfl) pa_nil))) pa_nil))))) (pw_or1 (pt_cmpR (op_neD hr.units) (pe_callB call_len_seq (by rfl) T.n_len PySem.boot_len (pa_cons (pv 0) pa_nil)) (pe_callB call_len_seq (by rfl) T.n_len PySem.boot_len (pa_cons (pv 1) pa_nil)) (nomark _))))))
        (pss_one (ps_ret pe_bl))
        pss_nil)
      (pss_one (ps_ret (pe_cmpR (op_eqD hr.units) (pe_lc (own := [("one", 2), ("other", 3)]) (g := (gTup _ 2 (gCons (gName 2) (gCons (gName 3) gNil)))) rfl sc__law_same.nd (pi_zipM true true (by rfl) T.n_zip (pa_cons (pv 0) (pa_cons (pv 1) pa_nil))) (blkOk_by (own := [("one", 2), ("other", 3)]) (N := ["value", "due", "one", "other"]) (sc := defScope (topS 44)) (by decide +kernel)) (fun _ _ _ _ _ => (pg_tup rfl (pgs_cons (pg_name (i := 2) sc__law_same.nd rfl (Or.inl rfl)) (pgs_cons (pg_name (i := 3) sc__law_same.nd rfl (Or.inl rfl)) pgs_nil)))) (fun _ _ _ _ _ => (pts_one (pt_not (pt_val (pe_call G hr rfl T.m__law_same T.F__law_same.kp T.b__law_same .nil pass0 (pa_cons (pv 2) (pa_cons (pv 3) pa_nil))))))) (fun _ _ _ _ _ => pe_int)) (pe_lst pa_nil) (nomark _)))))
      pss_nil)
    (pss_cons (ps_if (pt_cmpR op_isN (pv 1) pe_non (nomark _))
      (pss_one (ps_ret (pe_cmpR op_isN (pv 0) pe_non (nomark _))))
      pss_nil)
    (pss_cons (ps_if (pt_cmpR op_isA (pv 1) pe_bl (nomark _))
      (pss_one (ps_ret (pe_cmpR op_isA (pv 0) pe_bl (nomark _))))
      pss_nil)
    (pss_cons (ps_if (pt_cmpR op_isA (pv 1) pe_bl (nomark _))
      (pss_one (ps_ret (pe_cmpR op_isA (pv 0) pe_bl (nomark _))))
      pss_nil)
    (pss_cons (ps_if (pt_val (pe_callB call_isi (by rfl) T.n_isinstance (by decide +kernel) (pa_cons (pv 1) (pa_cons (pe_bltn (v := .ty "int") (u := .type "int") (by rfl) T.n_int (by decide +kernel) rfl) pa_nil))))
      (pss_one (ps_ret (pe_and (pe_callB call_isi (by rfl) T.n_isinstance (by decide +kernel) (pa_cons (pv 0) (pa_cons (pe_bltn (v := .ty "int") (u := .type "int") (by rfl) T.n_int (by decide +kernel) rfl) pa_nil))) (pe_and (pe_not (pe_callB call_isi (by rfl) T.n_isinstance (by decide +kernel) (pa_cons (pv 0) (pa_cons (pe_bltn (v := .ty "bool") (u := .type "bool") (by rfl) T.n_bool (by decide +kernel) rfl) pa_nil)))) (pe_one (pe_cmpR (op_eqD hr.units) (pv 0) (pv 1) (nomark _)))))))
      pss_nil)
    (pss_one (ps_ret (pe_and (pe_callB call_isi (by rfl) T.n_isinstance (by decide +kernel) (pa_cons (pv 0) (pa_cons (pe_bltn (v := .ty "str") (u := .type "str") (by rfl) T.n_str (by decide +kernel) rfl) pa_nil))) (pe_one (pe_cmpR (op_eqD hr.units) (pv 0) (pv 1) (nomark _))))))))))), go _ ?_⟩
    refine gs_skip (et_is (et_B (ev_isi2 (ev_rdD (d := .str x) rfl) (k_tuple _) (k_tl _))) rfl) ?_
    refine gs_skip (et_test (ev_isN (ev_rdD (d := .str x) rfl))) ?_
    refine gs_skip (et_test (ev_isB (ev_rdD (d := .str x) rfl))) ?_
    refine gs_skip (et_test (ev_isB (ev_rdD (d := .str x) rfl))) ?_
    refine gs_skip (et_is (et_B (ev_isi (ev_rdD (d := .str x) rfl) (k_int _))) rfl) ?_
    exact go_retI ((ev_andV (a := true) (b := true) (ev_isi (ev_rdD (d := .str x) rfl) (k_str _)) fun _ => (ev_eq (ev_rdD (d := .str x) rfl) (ev_rdD (d := .str x) rfl) hs hs).bo eqv_refl_str).bo rfl) (rt' _ _)
theorem ok_same (T : Txt K mg a d) : ∀ n, FnOk P w K mg base CX0 n a._law_same d._law_same ["value", "due"] (spSame K n)
  | 0 => ok_same0
  | n + 1 => ok__law_sameS (ok_same T n) T
theorem ok__law_same (T : Txt K mg a d) : FnOk P w K mg base CX0 6 a._law_same d._law_same ["value", "due"] (spSame K 6) := ok_same T 6
end
end Y
namespace Y
open PySem L2 Z M StX
section
variable {P : Program} {w : World} {K : PySem.W.Frag} {mg : Str → Option Value} {base : Heap} {a : Ad} {d : Fd}
theorem sc__law_trim : FnScope ["row", "end"] ["row"] (defScope (topS 46)) := ⟨rfl, rfl, rfl, by decide +kernel, rfl, by decide +kernel, by decide +kernel⟩
theorem ok__law_trimT (T : Txt K mg a d) : FnOk P w K mg base CX0 1 a._law_trim d._law_trim ["row"] (spD K (fun i : List Int => [tI i]) (fun i => tI (trimI i))) := by
  refine T.F__law_trim.ok sc__law_trim (fun vs H Q E h => spD_len (n := 1) (fun _ => rfl) h) (fun cdv A outer s H vs Q E hr h => ?_)
  obtain ⟨i, B0, F0, rt, go⟩ := enterD (N := ["row", "end"]) h
  refine ⟨_, (pss_cons (ps_set (i := 1) sc__law_trim.nd rfl (Or.inl rfl) (pe_callB call_len_seq (by rfl) T.n_len PySem.boot_len (pa_cons (pv 0) pa_nil)))
    (pss_cons (ps_while PassesOwn.never (PW.pt (pw_and (pt_cmpR op_gt (pv 1) pe_int (nomark _)) (pw_and1 (pt_cmpR (op_eqD hr.units) (pe_ix ix_tup (pv 0) (pe_op op_sub (pv 1) pe_int) (fun _ _ => rfl)) pe_int (nomark _)))))
      (pss_one (ps_set (i := 1) sc__law_trim.nd rfl (Or.inl rfl) (pe_op op_sub (pv 1) pe_int))))
    (pss_one (ps_ret (pe_callTy call_tuple_of (by rfl) T.n_tuple (by decide +kernel) (pa_cons (pe_slice sl_tupA (pv 0) po_none (po_some (pv 1))) pa_nil)))))), go _ ?_⟩
  refine (gs_set ((ev_lenT (ev_var rfl)).il (m := (i.length : Int)) (by rw [List.length_map])) ?_)
  refine (gs_while (W := fun m cs' => m ≤ i.length ∧ cs' = [cD K (tI i), cI K (m : Int)] ∧ ∀ k, m ≤ k → cf i k = 0) i.length ⟨Nat.le_refl _, rfl, fun k hk => cf_ge hk⟩ ?_)
  rintro m cs' ⟨hm, rfl, h0⟩
  refine ⟨decide (0 < m) && decide (cf i (m - 1) = 0), ?_, fun hb => ?_, fun hb => ?_⟩
  · refine et_and ((et_test (ev_cmp2 (ev_var rfl) ev_int)).imp fun b e => by rw [e]; simp) fun hp => et_test (K := K) ?_
    have hp' : 0 < m := of_decide_eq_true hp
    refine ev_eqI (ev_ixT (i := ((m - 1 : Nat) : Int)) (ev_var rfl) ((ev_int20 (ev_var rfl) ev_int).il (by omega)) (atI_int (cf_of_lt (by omega)))) ev_int
  · rw [Bool.and_eq_true] at hb
    have h1 : 0 < m := of_decide_eq_true hb.1
    have h2 : cf i (m - 1) = 0 := of_decide_eq_true hb.2
    refine go_set (c := cI K ((m - 1 : Nat) : Int)) ((ev_int20 (ev_var rfl) ev_int).il (by omega)) (go_mid ⟨m - 1, by omega, by omega, rfl, fun k hk => ?_⟩)
    by_cases e : k = m - 1
    · rw [e]; exact h2
    · exact h0 k (by omega)
  · refine go_retI (ev_tupleT (ev_slT (ev_var rfl) eo_none (eo_some (ev_var rfl)))) ?_
    rw [cutD_to (by rw [List.length_map]; exact hm)]
    have e : (i.map PyData.int).take m = (trimI i).map PyData.int := by
      rw [← List.map_take, take_trim hm h0]
      by_cases h1 : m = 0
      · exact .inl h1
      · refine .inr fun h2 => ?_
        rw [decide_eq_true (show 0 < m by omega), decide_eq_true h2] at hb
        cases hb
    rw [e]
    exact rt _ (by simp)
theorem ok__law_trimL (T : Txt K mg a d) : FnOk P w K mg base CX0 1 a._law_trim d._law_trim ["row"] (spD K (fun i : List Int => [lI i]) (fun i => tI (trimI i))) := by
  refine T.F__law_trim.ok sc__law_trim (fun vs H Q E h => spD_len (n := 1) (fun _ => rfl) h) (fun cdv A outer s H vs Q E hr h => ?_)
  obtain ⟨i, B0, F0, rt, go⟩ := enterD (N := ["row", "end"]) h
  refine ⟨_, (pss_cons (ps_set (i := 1) sc__law_trim.nd rfl (Or.inl rfl) (pe_callB call_len_seq (by rfl) T.n_len PySem.boot_len (pa_cons (pv 0) pa_nil)))
    (pss_cons (ps_while PassesOwn.never (PW.pt (pw_and (pt_cmpR op_gt (pv 1) pe_int (nomark _)) (pw_and1 (pt_cmpR (op_eqD hr.units) (pe_ix ix_list (pv 0) (pe_op op_sub (pv 1) pe_int) (fun _ _ => rfl)) pe_int (nomark _)))))
      (pss_one (ps_set (i := 1) sc__law_trim.nd rfl (Or.inl rfl) (pe_op op_sub (pv 1) pe_int))))
    (pss_one (ps_ret (pe_callTy call_tuple_of (by rfl) T.n_tuple (by decide +kernel) (pa_cons (pe_slice sl_list (pv 0) po_none (po_some (pv 1))) pa_nil)))))), go _ ?_⟩
  refine (gs_set ((ev_lenL (ds := i.map .int) (ev_rdD rfl)).il (m := (i.length : Int)) (by rw [List.length_map])) ?_)
  refine (gs_while (W := fun m cs' => m ≤ i.length ∧ cs' = [cD K (lI i), cI K (m : Int)] ∧ ∀ k, m ≤ k → cf i k = 0) i.length ⟨Nat.le_refl _, rfl, fun k hk => cf_ge hk⟩ ?_)
  rintro m cs' ⟨hm, rfl, h0⟩
  refine ⟨decide (0 < m) && decide (cf i (m - 1) = 0), ?_, fun hb => ?_, fun hb => ?_⟩
  · refine et_and ((et_test (ev_cmp2 (ev_var rfl) ev_int)).imp fun b e => by rw [e]; simp) fun hp => et_test (K := K) ?_
    have hp' : 0 < m := of_decide_eq_true hp
    refine ev_eqI (ev_ixL (i := ((m - 1 : Nat) : Int)) (ds := i.map .int) (ev_rdD rfl) ((ev_int20 (ev_var rfl) ev_int).il (by omega)) (atI_int (cf_of_lt (by omega)))) ev_int
  · rw [Bool.and_eq_true] at hb
    have h1 : 0 < m := of_decide_eq_true hb.1
    have h2 : cf i (m - 1) = 0 := of_decide_eq_true hb.2
    refine go_set (c := cI K ((m - 1 : Nat) : Int)) ((ev_int20 (ev_var rfl) ev_int).il (by omega)) (go_mid ⟨m - 1, by omega, by omega, rfl, fun k hk => ?_⟩)
    by_cases e : k = m - 1
    · rw [e]; exact h2
    · exact h0 k (by omega)
  · refine go_retI (ev_tupleL (ev_slL (ds := i.map .int) (ev_rdD rfl) eo_none (eo_some (ev_var rfl))).freeze.rd) ?_
    rw [cutD_to (by rw [List.length_map]; exact hm)]
    have e : (i.map PyData.int).take m = (trimI i).map PyData.int := by
      rw [← List.map_take, take_trim hm h0]
      by_cases h1 : m = 0
      · exact .inl h1
      · refine .inr fun h2 => ?_
        rw [decide_eq_true (show 0 < m by omega), decide_eq_true h2] at hb
        cases hb
    rw [e]
    exact rt _ (by simp)
theorem mul_done2 {a b f : List Int} (hl : f.length = a.length + b.length) (h : ∀ k, k < f.length → cf f k = cf (mulRaw (a.take a.length) b) k) : trimI f = mulI a b := by
  rw [List.take_length] at h
  refine trim_ext fun k => ?_
  by_cases hk : k < f.length
  · exact h k hk
  · rw [cf_ge (by omega), cf_ge (Nat.le_trans (len_mulRaw a b) (by omega))]
theorem sc__law_add : FnScope ["one", "other", "many", "found", "at", "entry"] ["one", "other", "many"] (defScope (topS 47)) := ⟨rfl, rfl, rfl, by decide +kernel, rfl, by decide +kernel, by decide +kernel⟩
theorem ok__law_add (T : Txt K mg a d) : FnOk P w K mg base CX0 2 a._law_add d._law_add ["one", "other", "many"] (spP K RS.ok (fun i => [tI i.a, tI i.b, .int i.n]) (fun i => tI (addI i.a i.b i.n))) := by
  refine T.F__law_add.ok sc__law_add (fun vs H Q E h => spD_len (n := 3) (fun _ => rfl) h) (fun cdv A outer s H vs Q E hr h => ?_)
  obtain ⟨i, B0, F0, rt, go⟩ := enterD (N := ["one", "other", "many", "found", "at", "entry"]) h
  refine ⟨_, (pss_cons (ps_set (i := 3) sc__law_add.nd rfl (Or.inl rfl) (pe_op op_cat (pe_callTy call_list_of (by rfl) T.n_list (by decide +kernel) (pa_cons (pv 0) pa_nil)) (pe_op op_rep (pe_lst (pa_cons pe_int pa_nil)) (pe_callB (call_max2 rfl) (by rfl) T.n_max (by decide +kernel) (pa_cons pe_int (pa_cons (pe_op op_sub (pe_callB call_len_seq (by rfl) T.n_len PySem.boot_len (pa_cons (pv 1) pa_nil)) (pe_callB call_len_seq (by rfl) T.n_len PySem.boot_len (pa_cons (pv 0) pa_nil))) pa_nil))))))
    (pss_cons (ps_for PassesOwn.never rfl (pi_enumM true (by rfl) T.n_enumerate (pa_cons (pv 1) pa_nil)) (pg_tup rfl (pgs_cons (pg_name (i := 4) sc__law_add.nd rfl (Or.inl rfl)) (pgs_cons (pg_name (i := 5) sc__law_add.nd rfl (Or.inl rfl)) pgs_nil)))
      (pss_one (ps_asg (pe_op op_add (pe_ix ix_list (pv 3) (pv 4) (fun _ _ => rfl)) (pe_op op_mulW (pv 2) (pv 5))) (pg_sub (pv 3) (pv 4) set_list))))
    (pss_one (ps_ret (pe_call (ok__law_trimL T) (hr.mono (by decide)) rfl T.m__law_trim T.F__law_trim.kp T.b__law_trim .nil pass0 (pa_cons (pv 3) pa_nil)))))), go _ ?_⟩
  obtain ⟨⟨x, y, n⟩, hx, hy, hn, hb⟩ := i
  have hx : x.length ≤ 1000 := hx
  have hy : y.length ≤ 1000 := hy
  refine gs_setO (ds := (padd x y).map .int) (Ev.own (ev_cat (ev_listT (ev_var rfl)) (ev_rep (ev_lst (ds := [.int 0]) (ea_cons ev_int ea_nil) (by decide)) (ev_max2 ev_int (ev_int20 (ev_lenT (ev_var rfl)) (ev_lenT (ev_var rfl)))) ?_ ?_) ?_) ?_) fun l => ?_
  · try dsimp only
    simp only [List.length_map]
    omega
  · try dsimp only
    simp only [List.length_map, List.length_singleton]
    omega
  · rw [zeros_flat, List.length_map, List.length_map, List.length_replicate]
    try dsimp only
    simp only [List.length_map]
    omega
  · rw [zeros_flat, List.length_map, List.length_map, max0, ← List.map_append]
    rfl
  · have lp : y.length ≤ (padd x y).length := by rw [len_padd]; omega
    have lp2 : (padd x y).length ≤ 1000 := by rw [len_padd]; exact Nat.max_le.mpr ⟨hx, hy⟩
    refine gs_for (js := [4, 5]) (ei_enum (b := true) (ds := y.map .int) (ev_var rfl)) (fun i cs' => ∃ c4 c5, cs' = [cD K (tI x), cD K (tI y), cI K n, cOwn K l ((addRaw n (padd x y) (y.take i)).map .int), c4, c5]) ⟨cNo, cNo, ?_⟩ ?_ ?_
    · rw [List.take_zero]
      have e : addRaw n (padd x y) [] = padd x y := by cases padd x y <;> rfl
      rw [e]
      rfl
    · rintro B1 sB i c cs' hi hc ⟨c4, c5, rfl⟩
      obtain ⟨hi', rfl⟩ := enum_ints hc
      have gi : ((addRaw n (padd x y) (y.take i)).map PyData.int)[i]? = some (.int (cf (padd x y) i)) := by
        rw [List.getElem?_map, add_get hi' lp]
        rfl
      have li : i < ((addRaw n (padd x y) (y.take i)).map PyData.int).length := (List.getElem?_eq_some_iff.mp gi).1
      refine ⟨_, tg_pair, go_store (i := 3) (j := i) (d := .int (cf (padd x y) i + n * cf y i)) rfl (ev_int20 (ev_ixL (i := (i : Int)) (ev_rdO rfl) (ev_var rfl) (Z.atI_nat gi)) (ev_int2 (ev_var rfl) (ev_var rfl) (mwB hn (bd_cf hb i)))) (ev_var rfl) li (go_mid ⟨cI K (i : Int), cI K (cf y i), ?_⟩)⟩
      rw [← add_step hi' lp, List.map_set]
      rfl
    · rintro cs' ⟨c4, c5, rfl⟩
      rw [List.length_map]
      refine go_freeze (i := 3) rfl ?_
      refine go_retI (ev_call (addRaw n (padd x y) (y.take y.length)) (ea_cons (ev_var rfl) ea_nil)) ?_
      rw [add_done]
      exact rt _ (by simp)
theorem sc__law_by : FnScope ["one", "other", "found", "at", "a", "place", "b"] ["one", "other"] (defScope (topS 48)) := ⟨rfl, rfl, rfl, by decide +kernel, rfl, by decide +kernel, by decide +kernel⟩
theorem ok__law_by (T : Txt K mg a d) : FnOk P w K mg base CX0 2 a._law_by d._law_by ["one", "other"] (spP K RP.ok (fun i => [tI i.a, tI i.b]) (fun i => tI (mulI i.a i.b))) := by
  refine T.F__law_by.ok sc__law_by (fun vs H Q E h => spD_len (n := 2) (fun _ => rfl) h) (fun cdv A outer s H vs Q E hr h => ?_)
  obtain ⟨i, B0, F0, rt, go⟩ := enterD (N := ["one", "other", "found", "at", "a", "place", "b"]) h
  refine ⟨_, (pss_cons (ps_set (i := 2) sc__law_by.nd rfl (Or.inl rfl) (pe_op op_rep (pe_lst (pa_cons pe_int pa_nil)) (pe_op op_add (pe_callB call_len_seq (by rfl) T.n_len PySem.boot_len (pa_cons (pv 0) pa_nil)) (pe_callB call_len_seq (by rfl) T.n_len PySem.boot_len (pa_cons (pv 1) pa_nil)))))
    (pss_cons (ps_for PassesOwn.never rfl (pi_enumM true (by rfl) T.n_enumerate (pa_cons (pv 0) pa_nil)) (pg_tup rfl (pgs_cons (pg_name (i := 3) sc__law_by.nd rfl (Or.inl rfl)) (pgs_cons (pg_name (i := 4) sc__law_by.nd rfl (Or.inl rfl)) pgs_nil)))
      (pss_one (ps_for PassesOwn.never rfl (pi_enumM true (by rfl) T.n_enumerate (pa_cons (pv 1) pa_nil)) (pg_tup rfl (pgs_cons (pg_name (i := 5) sc__law_by.nd rfl (Or.inl rfl)) (pgs_cons (pg_name (i := 6) sc__law_by.nd rfl (Or.inl rfl)) pgs_nil)))
        (pss_one (ps_asg (pe_op op_add (pe_ix ix_list (pv 2) (pe_op op_add (pv 3) (pv 5)) (fun _ _ => rfl)) (pe_op op_mulW (pv 4) (pv 6))) (pg_sub (pv 2) (pe_op op_add (pv 3) (pv 5)) set_list))))))
    (pss_one (ps_ret (pe_call (ok__law_trimL T) (hr.mono (by decide)) rfl T.m__law_trim T.F__law_trim.kp T.b__law_trim .nil pass0 (pa_cons (pv 2) pa_nil)))))), go _ ?_⟩
  obtain ⟨⟨x, y⟩, hx, hy, ha, hb⟩ := i
  have hx : x.length ≤ 1000 := hx
  have hy : y.length ≤ 1000 := hy
  refine gs_setO (ds := (List.replicate (x.length + y.length) 0).map .int) (Ev.own (ev_rep (ev_lst (ds := [.int 0]) (ea_cons ev_int ea_nil) (by decide)) (ev_int20 (ev_lenT (ev_var rfl)) (ev_lenT (ev_var rfl))) ?_ ?_) ?_) fun l => ?_
  · try dsimp only
    simp only [List.length_map]
    omega
  · try dsimp only
    simp only [List.length_map, List.length_singleton]
    omega
  · rw [zeros_flat, List.length_map, List.length_map]
    congr 2
  · refine gs_for (js := [3, 4]) (ei_enum (b := true) (ds := x.map .int) (ev_var rfl)) (fun i cs' => ∃ R c3 c4 c5 c6, cs' = [cD K (tI x), cD K (tI y), cOwn K l (R.map .int), c3, c4, c5, c6] ∧ R.length = x.length + y.length ∧ ∀ k, k < R.length → cf R k = cf (mulRaw (x.take i) y) k) ⟨_, cNo, cNo, cNo, cNo, rfl, by simp, fun k hk => ?_⟩ ?_ ?_
    · rw [List.take_zero]
      show cf _ k = cf [] k
      rw [cf_nil]
      unfold cf
      rw [List.getD_eq_getElem?_getD, List.getElem?_replicate]
      split <;> rfl
    · rintro B1 sB i c cs' hi hc ⟨R, c3, c4, c5, c6, rfl, lR, hR⟩
      obtain ⟨hi', rfl⟩ := enum_ints hc
      refine ⟨_, tg_pair, go_for (js := [5, 6]) (ei_enum (b := true) (ds := y.map .int) (ev_var rfl)) (fun p cs' => ∃ S c5 c6, cs' = [cD K (tI x), cD K (tI y), cOwn K l (S.map .int), cI K (i : Int), cI K (cf x i), c5, c6] ∧ S.length = x.length + y.length ∧ ∀ k, k < S.length → cf S k = cf R k + cf x i * (if k < i then 0 else cf (y.take p) (k - i))) ⟨R, _, _, rfl, lR, fun k hk => ?_⟩ ?_ ?_⟩
      · rw [List.take_zero]
        have e : (if k < i then (0 : Int) else cf [] (k - i)) = 0 := by split <;> simp [cf_nil]
        rw [e, Int.mul_zero, Int.add_zero]
      · rintro B2 sB2 p c cs' hp hc ⟨S, c5, c6, rfl, lS, hS⟩
        obtain ⟨hp', rfl⟩ := enum_ints hc
        have hlt : i + p < S.length := by rw [lS]; omega
        have gi : (S.map PyData.int)[i + p]? = some (.int (cf S (i + p))) := by
          rw [List.getElem?_map, cf_of_lt hlt]
          rfl
        have ix : Ev (tOp (rI0 fun i j => .int (i + j)) (tVar 3) (tVar 5)) [cD K (tI x), cD K (tI y), cOwn K l (S.map .int), cI K (i : Int), cI K (cf x i), cI K (p : Int), cI K (cf y p)] (Is (cI K ((i + p : Nat) : Int))) := (ev_int20 (ev_var rfl) (ev_var rfl)).il rfl
        refine ⟨_, tg_pair, go_store (i := 2) (j := i + p) (d := .int (cf S (i + p) + cf x i * cf y p)) rfl (ev_int20 (ev_ixL (i := ((i + p : Nat) : Int)) (ev_rdO rfl) ix (Z.atI_nat gi)) (ev_int2 (ev_var rfl) (ev_var rfl) (mwB (bd_cf ha i) (bd_cf hb p)))) ix (by rw [List.length_map]; exact hlt) (go_mid ⟨S.set (i + p) (cf S (i + p) + cf x i * cf y p), cI K (p : Int), cI K (cf y p), ?_, ?_, ?_⟩)⟩
        · rw [List.map_set]
          rfl
        · rw [List.length_set, lS]
        · intro k hk
          rw [List.length_set] at hk
          rw [cf_set hlt]
          by_cases e : k = i + p
          · subst e
            rw [if_pos rfl, hS _ hlt, if_neg (by omega), if_neg (by omega), Nat.add_sub_cancel_left, cf_take, cf_take, if_neg (by omega), if_pos (by omega), Int.mul_zero, Int.add_zero]
          · rw [if_neg e, hS k hk]
            congr 2
            by_cases e2 : k < i
            · rw [if_pos e2, if_pos e2]
            · rw [if_neg e2, if_neg e2, cf_take, cf_take]
              by_cases e3 : k - i < p
              · rw [if_pos e3, if_pos (by omega)]
              · rw [if_neg e3, if_neg (by omega)]
      · rintro cs' ⟨S, c5, c6, rfl, lS, hS⟩
        refine go_mid ⟨S, _, _, _, _, rfl, lS, fun k hk => ?_⟩
        rw [hS k hk, hR k (by omega), mul_step, List.length_map, List.take_length]
    · rintro cs' ⟨R, c3, c4, c5, c6, rfl, lR, hR⟩
      rw [List.length_map] at hR
      refine go_freeze (i := 2) rfl ?_
      refine go_retI (ev_call R (ea_cons (ev_var rfl) ea_nil)) ?_
      rw [mul_done2 lR hR]
      exact rt _ (by simp)
end
end Y
namespace Y
open PySem L2 Z M StX
section
variable {P : Program} {w : World} {K : PySem.W.Frag} {mg : Str → Option Value} {base : Heap} {a : Ad} {d : Fd}
open SX in
abbrev strD (l : List Nat) : PyData := .str (S l)
def low (l : List Nat) : Prop := ∀ c ∈ l, c < 128
theorem lay_S {l : List Nat} (h : low l) : PyData.canLay0 (strD l) = true := by
  show PyData.strOk _ = true
  refine Array.all_eq_true_iff_forall_mem.mpr fun c hc => ?_
  have := h c (by simpa [SX.S] using hc)
  exact decide_eq_true (by omega)
theorem S_ix {l : List Nat} {i c : Nat} (h : (SX.S l).cps[i]? = some c) : l[i]? = some c := by simpa [SX.S] using h
theorem S_size (l : List Nat) : (SX.S l).cps.size = l.length := by simp [SX.S]
theorem S_inj {a b : List Nat} (h : SX.S a = SX.S b) : a = b := by
  have := congrArg (fun x => x.cps.toList) h
  simpa [SX.S] using this
theorem S_eq (a b : List Nat) : (SX.S a == SX.S b) = decide (a = b) := by
  by_cases h : a = b
  · rw [h, beq_self_eq_true, decide_eq_true rfl]
  · rw [decide_eq_false h]
    exact beq_eq_false_iff_ne.mpr fun z => h (S_inj z)
theorem S_app (a b : List Nat) : SX.S a ++ SX.S b = SX.S (a ++ b) := by
  show (⟨a.toArray ++ b.toArray⟩ : Str) = ⟨(a ++ b).toArray⟩
  simp
theorem S_one (c : Nat) : (⟨#[c]⟩ : Str) = SX.S [c] := rfl
theorem low_nil : low [] := fun c h => by cases h
theorem low_one {c : Nat} (h : c < 128) : low [c] := fun d hd => by rw [List.mem_singleton.mp hd]; exact h
theorem low_app {a b : List Nat} (h : low a) (k : low b) : low (a ++ b) := fun c hc => by
  rcases List.mem_append.mp hc with q | q
  · exact h c q
  · exact k c q
section
variable {cs : List Cell} {ta tb te : TE} {x y : List Nat}
/-- == of texts by their signs -/
theorem ev_eqT (ha : Ev ta cs (Is (cD K (strD x)))) (hb : Ev tb cs (Is (cD K (strD y)))) (hx : low x) (hy : low y) : Ev (tOp (rEqD K) ta tb) cs (Is (cB K (decide (x = y)))) := (ev_eqS ha hb (lay_S hx) (lay_S hy)).bo (S_eq x y)
theorem ev_neT (ha : Ev ta cs (Is (cD K (strD x)))) (hb : Ev tb cs (Is (cD K (strD y)))) (hx : low x) (hy : low y) : Ev (tOp (rNeD K) ta tb) cs (Is (cB K (!decide (x = y)))) := (ev_neS ha hb (lay_S hx) (lay_S hy)).bo (congrArg _ (S_eq x y))
theorem ev_litT {z : Str} (h : z = SX.S x) : Ev (tC (.str z)) cs (Is (cD K (strD x))) := h ▸ ev_str
end
def dg (c : Nat) : Bool := decide (c ∈ [48, 49, 50, 51, 52, 53, 54, 55, 56, 57])
def numB (l : List Nat) : Bool := !(decide (l = []) || l.any (fun c => !dg c)) && (decide (l = [48]) || !decide (l.head? = some 48))
theorem any_map {α : Type} (l : List α) (f : α → Bool) : (l.map f).any id = l.any f := by
  rw [List.any_map]
  rfl
theorem sc_is_numeral : FnScope ["token", "sign"] ["token"] (defScope (topS 28)) := ⟨rfl, rfl, rfl, by decide +kernel, rfl, by decide +kernel, by decide +kernel⟩
theorem ok_is_numeral (T : Txt K mg a d) : FnOk P w K mg base CX0 1 a.is_numeral d.is_numeral ["token"] (spP K (fun l : List Nat => l.length ≤ 1000 ∧ low l) (fun l => [strD l]) (fun l => .bool (numB l))) := by
  refine T.F_is_numeral.ok sc_is_numeral (fun vs H Q E h => spD_len (n := 1) (fun _ => rfl) h) (fun cdv A outer s H vs Q E hr h => ?_)
  obtain ⟨i, B0, F0, rt, go⟩ := enterD (N := ["token", "sign"]) h
  refine ⟨_, (pss_cons (ps_if (PW.pt (pw_or (pt_cmpR (op_eqD hr.units) (pv 0) pe_str (nomark _)) (pw_or1 (pt_val (pe_callB (cr_any rfl) (by rfl) T.n_any (by decide +kernel) (pa_cons (pe_lc (own := [("sign", 1)]) (g := (gName 1)) rfl sc_is_numeral.nd (pi_str (pv 0)) (blkOk_by (own := [("sign", 1)]) (N := ["token", "sign"]) (sc := defScope (topS 28)) (by decide +kernel)) (fun _ _ _ _ _ => (pg_name (i := 1) sc_is_numeral.nd rfl (Or.inl rfl))) (fun _ _ _ _ _ => pts_nil) (fun _ _ _ _ _ => (pe_cmpR op_notIn_sign (pv 1) pe_str (by rfl)))) pa_nil))))))
      (pss_one (ps_ret pe_bl))
      pss_nil)
    (pss_one (ps_ret (pe_or (pe_cmpR (op_eqD hr.units) (pv 0) pe_str (nomark _)) (pe_one (pe_cmpR (op_neD hr.units) (pe_ix ix_str (pv 0) pe_int (fun _ _ => rfl)) pe_str (nomark _))))))), go _ ?_⟩
  obtain ⟨l, hl, lo⟩ := i
  have hl : l.length ≤ 1000 := hl
  refine gs_ifE (b := decide (l = []) || l.any (fun c => !dg c)) (et_or (et_test (ev_eqT (ev_var rfl) (ev_litT (x := []) (by decide +kernel)) lo low_nil)) fun _ => et_B (K := K) ?_) (fun h => ?_) (fun h => ?_)
  · refine (Z.ev_any (bs := l.map fun c => !dg c) (Ev.rd (Ev.freeze (Ev.own (ev_lc1A l (fun c => .str ⟨#[c]⟩) (fun c => .bool (!dg c)) (ei_str (z := SX.S l) (ev_var rfl)) (S_size l) (fun i c ⟨k, h1, h2⟩ => ⟨k, S_ix h1, h2⟩) rfl (by omega) fun c _ => ?_) ?_)))).bo (any_map l _)
    · exact (ev_notInC (c := c) (ev_var rfl) ev_str).bo (by
        have e : (("0123456789" : Str)).cps.toList = [48, 49, 50, 51, 52, 53, 54, 55, 56, 57] := by decide +kernel
        rw [e]
        rfl)
    · rw [List.map_map]
      rfl
  · exact go_retI ev_bl (rt_eq (d := .bool (numB l)) (rt _ (by simp)) (by unfold numB; rw [h]; rfl))
  · have nl : l ≠ [] := by
      intro e
      rw [e] at h
      cases h
    obtain ⟨c, r, rfl⟩ : ∃ c r, l = c :: r := by
      cases l with
      | nil => exact absurd rfl nl
      | cons c r => exact ⟨c, r, rfl⟩
    have hc : c < 128 := lo c (List.mem_cons_self ..)
    refine go_retI (ev_orV (ev_eqT (ev_var rfl) (ev_litT (x := [48]) (by decide +kernel)) lo (low_one (by decide))) fun _ => (ev_neT (x := [c]) (ev_ixS (z := SX.S (c :: r)) (i := 0) (c := c) (ev_var rfl) ev_int (by rw [SX.S_len]; omega) ?_) (ev_litT (x := [48]) (by decide +kernel)) (low_one hc) (low_one (by decide)))) (rt_eq (d := .bool (numB (c :: r))) (rt _ (by simp)) ?_)
    · show atI (SX.S (c :: r)).cps.toList ((0 : Nat) : Int) = some c
      exact Z.atI_nat (by simp [SX.S])
    · unfold numB
      rw [h]
      simp
end
end Y
namespace Y
open PySem L2 Z M StX
section
variable {P : Program} {w : World} {K : PySem.W.Frag} {mg : Str → Option Value} {base : Heap} {a : Ad} {d : Fd}
def bl (c : Nat) : Bool := decide (c ∈ [32, 9, 10])
def mk (c : Nat) : Bool := decide (c ∈ [43, 45, 42, 94, 40, 41])
def shut (f : List (List Nat)) (r : List Nat) : List (List Nat) := if r = [] then f else f ++ [r]
/-- the tokens of what is left of a text -/
def tkF : List Nat → List (List Nat) → List Nat → List (List Nat)
  | [], f, r => shut f r
  | c :: l, f, r => if bl c || mk c then tkF l (if mk c then shut f r ++ [[c]] else shut f r) [] else tkF l f (r ++ [c])
def tokens (l : List Nat) : List (List Nat) := tkF l [] []
theorem blanks_is : ((" \t\n" : Str)).cps.toList = [32, 9, 10] := by decide +kernel
theorem marks_is : (("+-*^()" : Str)).cps.toList = [43, 45, 42, 94, 40, 41] := by decide +kernel
theorem drop_at {α : Type} {l : List α} {i : Nat} {c : α} (h : l[i]? = some c) : l.drop i = c :: l.drop (i + 1) := by
  have hi := (List.getElem?_eq_some_iff.mp h).1
  rw [List.drop_eq_getElem_cons hi]
  rw [List.getElem?_eq_getElem hi] at h
  rw [Option.some.inj h]
theorem shut_len (f : List (List Nat)) (r : List Nat) : (shut f r).length ≤ f.length + 1 := by
  unfold shut
  split
  · omega
  · simp
theorem sc_tokens_of : FnScope ["text", "found", "run", "sign"] ["text"] (defScope (topS 29)) := ⟨rfl, rfl, rfl, by decide +kernel, rfl, by decide +kernel, by decide +kernel⟩
theorem ok_tokens_of (T : Txt K mg a d) : FnOk P w K mg base CX0 1 a.tokens_of d.tokens_of ["text"] (spP K (fun l : List Nat => l.length ≤ 20000 ∧ low l) (fun l => [strD l]) (fun l => .tuple ((tokens l).map strD))) := by
  refine T.F_tokens_of.ok sc_tokens_of (fun vs H Q E h => spD_len (n := 1) (fun _ => rfl) h) (fun cdv A outer s H vs Q E hr h => ?_)
  obtain ⟨i, B0, F0, rt, go⟩ := enterD (N := ["text", "found", "run", "sign"]) h
  refine ⟨_, (pss_cons (ps_par (i := 1) (j := 2) (by rfl) sc_tokens_of.nd rfl rfl (by decide) rfl rfl (pa_cons (pe_lst pa_nil) (pa_cons pe_str pa_nil)) (by rfl))
    (pss_cons (ps_for PassesOwn.never rfl (pi_str (pv 0)) (pg_name (i := 3) sc_tokens_of.nd rfl (Or.inl rfl))
      (pss_one (ps_if (PW.pt (pw_or (pt_cmpR op_in_sign (pv 3) (pe_glob rfl T.c_BLANKS.choose_spec.1 T.c_BLANKS.choose_spec.2) (by rfl)) (pw_or1 (pt_cmpR op_in_sign (pv 3) (pe_glob rfl T.c_MARKS.choose_spec.1 T.c_MARKS.choose_spec.2) (by rfl)))))
        (Evl.pss_cut (ps_if (pt_cmpR (op_neD hr.units) (pv 2) pe_str (nomark _))
          (pss_cons (ps_expr (pe_bm PySem.F.plainAttrs_list PySem.F.slot_list_append PySem.F.type_list_append mt_append (pv 1) (pa_cons (pv 2) pa_nil)))
          (pss_one (ps_set (i := 2) sc_tokens_of.nd rfl (Or.inl rfl) pe_str)))
          pss_nil)
        (pss_one (ps_if (pt_cmpR op_in_sign (pv 3) (pe_glob rfl T.c_MARKS.choose_spec.1 T.c_MARKS.choose_spec.2) (by rfl))
          (pss_one (ps_expr (pe_bm PySem.F.plainAttrs_list PySem.F.slot_list_append PySem.F.type_list_append mt_append (pv 1) (pa_cons (pv 3) pa_nil))))
          pss_nil)))
        (pss_one (ps_aug (i := 2) sc_tokens_of.nd rfl (Or.inl rfl) (pv 3) (ip_ofR iop_add_str))))))
    (Evl.pss_cut (ps_if (pt_cmpR (op_neD hr.units) (pv 2) pe_str (nomark _))
      (pss_one (ps_expr (pe_bm PySem.F.plainAttrs_list PySem.F.slot_list_append PySem.F.type_list_append mt_append (pv 1) (pa_cons (pv 2) pa_nil))))
      pss_nil)
    (pss_one (ps_ret (pe_callTy call_tuple_of (by rfl) T.n_tuple (by decide +kernel) (pa_cons (pv 1) pa_nil))))))), go _ ?_⟩
  obtain ⟨l, hl, lo⟩ := i
  have hl : l.length ≤ 20000 := hl
  refine gs_parG (ea2 (ev_lst (K := K) (ds := []) ea_nil (by decide)) (ev_litT (K := K) (x := []) (by decide +kernel))) fun c1 c2 ⟨⟨lo', e1⟩, e2⟩ => ?_
  subst e1 e2
  refine gs_for (js := [3]) (ei_str (z := SX.S l) (ev_var rfl)) (fun i cs' => ∃ (f : List (List Nat)) (r : List Nat) (c3 : Cell), cs' = [cD K (strD l), cOwn K lo' (f.map strD), cD K (strD r), c3] ∧ tkF (l.drop i) f r = tokens l ∧ f.length ≤ 2 * i ∧ r.length ≤ i ∧ low r) ⟨[], [], cNo, rfl, rfl, Nat.zero_le _, Nat.zero_le _, low_nil⟩ ?_ ?_
  · rintro B1 sB i c cs' hi ⟨k, hk, rfl⟩ ⟨f, r, c3, rfl, ht, hf, hr', lr⟩
    rw [S_size] at hi
    have hk := S_ix hk
    have kl : k < 128 := lo k (List.mem_of_getElem? hk)
    have hd := drop_at hk
    rw [hd] at ht
    have inB : ∀ {cs : List Cell}, cs[3]? = some (cD K (strD [k])) → Ev (tOp (fun x y H Q => ∃ (c : Nat) (z : Str), x = .str ⟨#[c]⟩ ∧ y = .str z ∧ Q (.bl (decide (c ∈ z.cps.toList))) H) (tVar 3) (tC (.str " \t\n"))) cs (Is (cB K (bl k))) := fun h => (ev_inC (c := k) (ev_var h) ev_str).bo (by rw [blanks_is]; rfl)
    have inM : ∀ {cs : List Cell}, cs[3]? = some (cD K (strD [k])) → Ev (tOp (fun x y H Q => ∃ (c : Nat) (z : Str), x = .str ⟨#[c]⟩ ∧ y = .str z ∧ Q (.bl (decide (c ∈ z.cps.toList))) H) (tVar 3) (tC (.str "+-*^()"))) cs (Is (cB K (mk k))) := fun h => (ev_inC (c := k) (ev_var h) ev_str).bo (by rw [marks_is]; rfl)
    refine ⟨_, tg_name, go_if (b := bl k || mk k) (et_or (et_test (inB rfl)) fun _ => et_test (inM rfl)) (fun h => ?_) (fun h => ?_)⟩
    · have ht : tkF (l.drop (i + 1)) (if mk k then shut f r ++ [[k]] else shut f r) [] = tokens l := by
        rw [← ht]
        show _ = if bl k || mk k then _ else _
        rw [if_pos h]
      refine go_cut (fun cs' => cs' = [cD K (strD l), cOwn K lo' ((shut f r).map strD), cD K (strD []), cD K (strD [k])]) (go_if (et_test (ev_neT (ev_var rfl) (ev_litT (x := []) (by decide +kernel)) lr low_nil)) (fun hb => ?_) (fun hb => ?_)) ?_
      · have nr : r ≠ [] := by simpa using hb
        refine gs_append (i := 1) rfl (ev_var (d := strD r) rfl) (by rw [List.length_map]; omega) ?_
        refine go_set (ev_litT (K := K) (x := []) (by decide +kernel)) (go_mid ?_)
        have e : shut f r = f ++ [r] := if_neg nr
        rw [e, List.map_append]
        rfl
      · have er : r = [] := by simpa using hb
        subst er
        exact go_nx (go_mid rfl)
      · rintro cs' rfl
        have sl := shut_len f r
        refine go_if (et_test (inM rfl)) (fun hm => ?_) (fun hm => ?_)
        · rw [if_pos hm] at ht
          refine go_append (i := 1) (d := strD [k]) rfl (ev_var rfl) (by rw [List.length_map]; omega) (go_mid ⟨shut f r ++ [[k]], [], cD K (strD [k]), ?_, ht, ?_, Nat.zero_le _, low_nil⟩)
          · rw [List.map_append]
            rfl
          · rw [List.length_append, List.length_singleton]
            omega
        · rw [if_neg (by rw [hm]; decide)] at ht
          exact go_nx (go_mid ⟨shut f r, [], _, rfl, ht, by omega, Nat.zero_le _, low_nil⟩)
    · have ht : tkF (l.drop (i + 1)) f (r ++ [k]) = tokens l := by
        rw [← ht]
        show _ = if bl k || mk k then _ else _
        rw [if_neg (by rw [h]; decide)]
      refine go_augS (i := 2) (x := SX.S r) (y := SX.S [k]) rfl (ev_var rfl) (by rw [SX.S_len, SX.S_len, List.length_singleton]; omega) (go_mid ⟨f, r ++ [k], cD K (strD [k]), ?_, ht, by omega, by rw [List.length_append, List.length_singleton]; omega, low_app lr (low_one kl)⟩)
      rw [S_app]
      rfl
  · rintro cs' ⟨f, r, c3, rfl, ht, hf, hr', lr⟩
    rw [S_size] at ht hf hr'
    rw [List.drop_length] at ht
    have ht : shut f r = tokens l := ht
    refine go_cut (fun cs' => ∃ c2 c3, cs' = [cD K (strD l), cOwn K lo' ((tokens l).map strD), c2, c3]) (go_if (et_test (ev_neT (ev_var rfl) (ev_litT (x := []) (by decide +kernel)) lr low_nil)) (fun hb => ?_) (fun hb => ?_)) ?_
    · have nr : r ≠ [] := by simpa using hb
      refine go_append (i := 1) rfl (ev_var (d := strD r) rfl) (by rw [List.length_map]; omega) (go_mid ⟨cD K (strD r), c3, ?_⟩)
      rw [← ht]
      have e : shut f r = f ++ [r] := if_neg nr
      rw [e, List.map_append]
      rfl
    · have er : r = [] := by simpa using hb
      subst er
      refine go_nx (go_mid ⟨cD K (strD []), c3, ?_⟩)
      rw [← ht]
      rfl
    · rintro cs' ⟨c2, c3, rfl⟩
      refine go_freeze (i := 1) rfl ?_
      exact go_retI (ev_tupleL (ds := (tokens l).map strD) (ev_rdD rfl)) (rt _ (by simp))
end
end Y
namespace Y
open PySem L2 Z M StX
section
variable {P : Program} {w : World} {K : PySem.W.Frag} {mg : Str → Option Value} {base : Heap} {a : Ad} {d : Fd}
structure CU where
  p : Addr
  ts : List (List Nat)
  n : Nat
abbrev cC (K : PySem.W.Frag) (C p : Addr) (ts : List (List Nat)) (n : Nat) : Cell := cIns C p ["tokens", "at"] [cD K (.tuple (ts.map strD)), cI K (n : Nat)]
def CU.c (u : CU) (K : PySem.W.Frag) (C : Addr) : Cell := cC K C u.p u.ts u.n
def CU.on (u : CU) : CU := ⟨u.p, u.ts, u.n + 1⟩
def tk (ts : List (List Nat)) (i : Nat) : List Nat := ts.getD i []
theorem tk_at {ts : List (List Nat)} {i : Nat} (h : i < ts.length) : ts[i]? = some (tk ts i) := by
  unfold tk
  rw [List.getD_eq_getElem?_getD, List.getElem?_eq_getElem h]
  rfl
theorem tk_no {ts : List (List Nat)} {i : Nat} (h : ¬ i < ts.length) : tk ts i = [] := by
  unfold tk
  rw [List.getD_eq_getElem?_getD, List.getElem?_eq_none (by omega)]
  rfl
theorem tk_low {ts : List (List Nat)} (h : ∀ t ∈ ts, low t) (i : Nat) : low (tk ts i) := by
  by_cases q : i < ts.length
  · exact h _ (List.mem_of_getElem? (tk_at q))
  · rw [tk_no q]
    exact low_nil
section
variable {cs : List Cell} {te : TE} {k : Nat} {u : CU}
theorem ev_toks (T : Txt K mg a d) (he : Ev te cs (Is (cV (.ref u.p)))) (hk : cs[k]? = some (u.c K a.Cursor)) : Ev (tFld K te "tokens") cs (Is (cD K (.tuple (u.ts.map strD)))) := ev_fldD (C := a.Cursor) (p := u.p) (ns := ["tokens", "at"]) (fs := [cD K (.tuple (u.ts.map strD)), cI K (u.n : Nat)]) (i := 0) he hk (by decide +kernel) rfl T.cl_Cursor T.na_tokens
theorem ev_at (T : Txt K mg a d) (he : Ev te cs (Is (cV (.ref u.p)))) (hk : cs[k]? = some (u.c K a.Cursor)) : Ev (tFld K te "at") cs (Is (cI K (u.n : Nat))) := ev_fldD (C := a.Cursor) (p := u.p) (ns := ["tokens", "at"]) (fs := [cD K (.tuple (u.ts.map strD)), cI K (u.n : Nat)]) (i := 1) he hk (by decide +kernel) rfl T.cl_Cursor T.na_at
end
theorem C_at {K : PySem.W.Frag} {C : Addr} {cs : List Cell} {u : CU} {k : Nat} (hk : cs[k]? = some (u.c K C)) : Ev (tVar k) cs (Is (cV (.ref u.p))) := ev_varP hk cIns_pin
theorem C_pin {K : PySem.W.Frag} {C : Addr} {u : CU} : (u.c K C).Pin (.ref u.p) := cIns_pin
theorem sc_Cursor___init__ : FnScope ["self", "text"] ["self", "text"] (defScope (inClass (topS 33) 0)) := ⟨rfl, rfl, rfl, by decide +kernel, rfl, by decide +kernel, by decide +kernel⟩
abbrev sp_Cursor___init__ (K : PySem.W.Frag) (a : Ad) : Sp := spR (fun i : {x : Addr × List Nat // x.2.length ≤ 20000 ∧ low x.2} => [cIns a.Cursor i.1.1 [] [], cD K (strD i.1.2)]) (fun i cs' c' => c' = cN K ∧ cs' = [(CU.mk i.1.1 (tokens i.1.2) 0).c K a.Cursor, cNo])
theorem ok_Cursor___init__ (T : Txt K mg a d) : FnOk P w K mg base CX0 2 a.Cursor___init__ d.Cursor___init__ ["self", "text"] (sp_Cursor___init__ K a) := by
  refine T.F_Cursor___init__.ok sc_Cursor___init__ (fun vs H Q E h => spR_len (n := 2) (fun _ => rfl) h) (fun cdv A outer s H vs Q E hr h => ?_)
  obtain ⟨i, B0, F0, rt, go⟩ := enter (N := ["self", "text"]) h
  refine ⟨_, (pss_cons (ps_if (pt_not (pt_val (pe_callB call_isi (by rfl) T.n_isinstance (by decide +kernel) (pa_cons (pv 1) (pa_cons (pe_bltn (v := .ty "str") (u := .type "str") (by rfl) T.n_str (by decide +kernel) rfl) pa_nil)))))
      (pss_one ps_never)
      pss_nil)
    (pss_cons (ps_fld (pv 0) (pe_call (ok_tokens_of T) (hr.mono (by decide)) rfl T.m_tokens_of T.F_tokens_of.kp T.b_tokens_of .nil pass0 (pa_cons (pv 1) pa_nil)) rfl)
    (pss_one (ps_fld (pv 0) pe_int rfl)))), go _ ?_⟩
  obtain ⟨⟨p, l⟩, hl, lo⟩ := i
  refine gs_skip (et_is (et_not (et_B (ev_isi (ev_rdD (d := strD l) rfl) (k_str _)))) rfl) ?_
  refine gs_fldNew (k := 0) (ns := []) (fs := []) (ev_callP l ⟨hl, lo⟩ (ea_cons (ev_var rfl) ea_nil)) (ev_varP (i := 0) rfl cIns_pin) rfl (by decide +kernel) (by decide +kernel) rfl (by decide) T.cl_Cursor T.na_tokens fun c r => ?_
  subst r
  refine go_fldNew (k := 0) (ns := ["tokens"]) (fs := [cD K (.tuple ((tokens l).map strD))]) (ev_int (K := K) (n := 0)) (ev_varP (i := 0) rfl cIns_pin) rfl (by decide +kernel) (by decide +kernel) rfl (by decide) T.cl_Cursor T.na_at fun c r => ?_
  subst r
  exact go_end (rt _ _ _ ⟨rfl, rfl⟩ (.keep cIns_pin cIns_pin (.no .nil)))
theorem sc_Cursor_ahead : FnScope ["self"] ["self"] (defScope (inClass (topS 33) 1)) := ⟨rfl, rfl, rfl, by decide +kernel, rfl, by decide +kernel, by decide +kernel⟩
abbrev sp_Cursor_ahead (K : PySem.W.Frag) (a : Ad) : Sp := spR (fun i : CU => [i.c K a.Cursor]) (fun i cs' c' => c' = cD K (strD (tk i.ts i.n)) ∧ cs' = [i.c K a.Cursor])
theorem ok_Cursor_ahead (T : Txt K mg a d) : FnOk P w K mg base CX0 1 a.Cursor_ahead d.Cursor_ahead ["self"] (sp_Cursor_ahead K a) := by
  refine T.F_Cursor_ahead.ok sc_Cursor_ahead (fun vs H Q E h => spR_len (n := 1) (fun _ => rfl) h) (fun cdv A outer s H vs Q E hr h => ?_)
  obtain ⟨i, B0, F0, rt, go⟩ := enter (N := ["self"]) h
  refine ⟨_, (pss_one (ps_ret (pe_ifExp (pt_cmpR op_lt (pe_fld (pv 0) rfl) (pe_callB call_len_seq (by rfl) T.n_len PySem.boot_len (pa_cons (pe_fld (pv 0) rfl) pa_nil)) (nomark _)) (pe_ix ix_tup (pe_fld (pv 0) rfl) (pe_fld (pv 0) rfl) (fun _ _ => rfl)) pe_str))), go _ ?_⟩
  have he : Ev (tVar 0) [i.c K a.Cursor] (Is (cV (.ref i.p))) := ev_varP rfl C_pin
  refine go_retI (c := cD K (strD (tk i.ts i.n))) (ev_if (et_test (ev_cmp2 (ev_at (k := 0) T he rfl) (ev_lenT (ev_toks (k := 0) T he rfl)))) (fun h => ?_) (fun h => ?_)) (rt _ _ _ ⟨rfl, rfl⟩ (.keep C_pin C_pin .nil))
  · have h := of_decide_eq_true h
    rw [List.length_map] at h
    refine ev_ixT (i := (i.n : Nat)) (ev_toks (k := 0) T he rfl) (ev_at (k := 0) T he rfl) (Z.atI_nat ?_)
    rw [List.getElem?_map, tk_at (by omega)]
    rfl
  · have h := of_decide_eq_false h
    rw [List.length_map] at h
    have e : tk i.ts i.n = [] := tk_no (by omega)
    rw [e]
    exact ev_litT (x := []) (by decide +kernel)
section
variable {cs : List Cell} {te : TE} {k : Nat} {u : CU} {E : XK}
theorem ev_ahead (hk : cs[k]? = some (u.c K a.Cursor)) : Ev (tMeth a.Cursor "ahead" (sp_Cursor_ahead K a) [] E (tVar k) tNil) cs (Is (cD K (strD (tk u.ts u.n)))) := ev_methK (I := CU) u k hk (by decide +kernel) rfl (C_at hk) ea_nil fun cs' c' po => ⟨po.2, po.1⟩
end
theorem sc_Cursor_take : FnScope ["self", "token"] ["self", "token"] (defScope (inClass (topS 33) 3)) := ⟨rfl, rfl, rfl, by decide +kernel, rfl, by decide +kernel, by decide +kernel⟩
abbrev sp_Cursor_take (K : PySem.W.Frag) (a : Ad) : Sp := spR (fun i : {x : CU × List Nat // tk x.1.ts x.1.n = x.2 ∧ low x.2} => [i.1.1.c K a.Cursor, cD K (strD i.1.2)]) (fun i cs' c' => c' = cN K ∧ cs' = [i.1.1.on.c K a.Cursor, cNo])
theorem ok_Cursor_take (T : Txt K mg a d) : FnOk P w K mg base CX0 2 a.Cursor_take d.Cursor_take ["self", "token"] (sp_Cursor_take K a) := by
  refine T.F_Cursor_take.ok sc_Cursor_take (fun vs H Q E h => spR_len (n := 2) (fun _ => rfl) h) (fun cdv A outer s H vs Q E hr h => ?_)
  obtain ⟨i, B0, F0, rt, go⟩ := enter (N := ["self", "token"]) h
  refine ⟨_, (pss_cons (ps_if (pt_cmpR (op_neD hr.units) (pe_meth0 (pv 0) T.cl_Cursor T.me_Cursor_ahead (ok_Cursor_ahead T) (hr.mono (by decide)) T.b_Cursor_ahead .nil pass0) (pv 1) (nomark _))
      (pss_one ps_never)
      pss_nil)
    (pss_one (ps_fldaug (pv 0) pe_int ip_add))), go _ ?_⟩
  obtain ⟨⟨u, t⟩, ht, lo⟩ := i
  have ht : tk u.ts u.n = t := ht
  have lo : low t := lo
  have he : Ev (tVar 0) [u.c K a.Cursor, cD K (strD t)] (Is (cV (.ref u.p))) := ev_varP rfl C_pin
  refine gs_skip (et_is (et_test (ev_neT (x := tk u.ts u.n) (y := t) (ev_ahead (u := u) (k := 0) rfl) (by exact ev_var rfl) (by rw [ht]; exact lo) lo)) (by rw [ht, decide_eq_true rfl]; rfl)) ?_
  refine go_fldAug (k := 0) (i := 1) (g := fun i j => i + j) (x := (u.n : Nat)) (y := 1) (ns := ["tokens", "at"]) (fs := [cD K (.tuple (u.ts.map strD)), cI K (u.n : Nat)]) he rfl (by decide +kernel) (by decide) rfl (by decide) T.cl_Cursor T.na_at ev_int ?_
  exact go_end (rt _ _ _ ⟨rfl, rfl⟩ (.keep cIns_pin C_pin (.no .nil)))
def numV (t : List Nat) : Nat := PySem.NumText.digitsVal t
def topOk (high : PyData) (v : Nat) : Prop := high = .none ∨ ∃ n : Int, high = .int n ∧ (v : Int) ≤ n
theorem digits_of {t : List Nat} (h : numB t = true) : t ≠ [] ∧ t.all (fun c => decide (48 ≤ c) && decide (c ≤ 57)) = true := by
  unfold numB at h
  rw [Bool.and_eq_true] at h
  have h1 := h.1
  simp only [Bool.not_eq_true', Bool.or_eq_false_iff] at h1
  refine ⟨by simpa using h1.1, List.all_eq_true.mpr fun c hc => ?_⟩
  have q := List.any_eq_false.mp h1.2 c hc
  have q2 : dg c = true := by simpa using q
  unfold dg at q2
  have := of_decide_eq_true q2
  simp only [List.mem_cons, List.not_mem_nil, or_false] at this
  rw [Bool.and_eq_true]
  exact ⟨decide_eq_true (by omega), decide_eq_true (by omega)⟩
theorem int_tok {t : List Nat} (h : numB t = true) (hl : t.length ≤ 640) : PySem.intText? (SX.S t) = some (numV t : Int) := SX.int_S (digits_of h).2 (digits_of h).1 (by omega)
theorem sc_Cursor_number : FnScope ["self", "digits", "high", "token"] ["self", "digits", "high"] (defScope (inClass (topS 33) 4)) := ⟨rfl, rfl, rfl, by decide +kernel, rfl, by decide +kernel, by decide +kernel⟩
abbrev sp_Cursor_number (K : PySem.W.Frag) (a : Ad) : Sp := spR (fun i : {x : CU × Nat × PyData // low (tk x.1.ts x.1.n) ∧ numB (tk x.1.ts x.1.n) = true ∧ (tk x.1.ts x.1.n).length ≤ x.2.1 ∧ x.2.1 ≤ 600 ∧ topOk x.2.2 (numV (tk x.1.ts x.1.n))} => [i.1.1.c K a.Cursor, cI K (i.1.2.1 : Nat), cD K i.1.2.2]) (fun i cs' c' => c' = cI K (numV (tk i.1.1.ts i.1.1.n) : Nat) ∧ cs' = [i.1.1.on.c K a.Cursor, cNo, cNo])
theorem ok_Cursor_number (T : Txt K mg a d) : FnOk P w K mg base CX0 2 a.Cursor_number d.Cursor_number ["self", "digits", "high"] (sp_Cursor_number K a) := by
  refine T.F_Cursor_number.ok sc_Cursor_number (fun vs H Q E h => spR_len (n := 3) (fun _ => rfl) h) (fun cdv A outer s H vs Q E hr h => ?_)
  obtain ⟨i, B0, F0, rt, go⟩ := enter (N := ["self", "digits", "high", "token"]) h
  refine ⟨_, (pss_cons (ps_set (i := 3) sc_Cursor_number.nd rfl (Or.inl rfl) (pe_meth0 (pv 0) T.cl_Cursor T.me_Cursor_ahead (ok_Cursor_ahead T) (hr.mono (by decide)) T.b_Cursor_ahead .nil pass0))
    (pss_cons (ps_if (PW.pt (pw_or (pt_not (pt_val (pe_call (ok_is_numeral T) (hr.mono (by decide)) rfl T.m_is_numeral T.F_is_numeral.kp T.b_is_numeral .nil pass0 (pa_cons (pv 3) pa_nil)))) (pw_or (pt_cmpR op_gt (pe_callB call_len_str (by rfl) T.n_len PySem.boot_len (pa_cons (pv 3) pa_nil)) (pv 1) (nomark _)) (pw_or1 (PW.pt (pw_and (pt_cmpR op_notN (pv 2) pe_non (nomark _)) (pw_and1 (pt_cmpR op_gt (pe_callTy call_int_str (by rfl) T.n_int (by decide +kernel) (pa_cons (pv 3) pa_nil)) (pv 2) (nomark _)))))))))
      (pss_one ps_never)
      pss_nil)
    (pss_cons (ps_fldaug (pv 0) pe_int ip_add)
    (pss_one (ps_ret (pe_callTy call_int_str (by rfl) T.n_int (by decide +kernel) (pa_cons (pv 3) pa_nil))))))), go _ ?_⟩
  obtain ⟨⟨u, g, hi⟩, lo, hn, hl, hg, ht⟩ := i
  have hl : (tk u.ts u.n).length ≤ g := hl
  have hg : g ≤ 600 := hg
  have lo : low (tk u.ts u.n) := lo
  have hn : numB (tk u.ts u.n) = true := hn
  have ht : topOk hi (numV (tk u.ts u.n)) := ht
  refine gs_set (ev_ahead (u := u) (k := 0) rfl) ?_
  refine gs_skip (et_is (et_or (a := false) (b := false) (et_is (et_not (et_B (ev_callP (P := fun l : List Nat => l.length ≤ 1000 ∧ low l) (A := fun l => [strD l]) (f := fun l => .bool (numB l)) (tk u.ts u.n) ⟨by omega, lo⟩ (ea_cons (ev_var rfl) ea_nil)))) (by rw [hn]; rfl)) fun _ => et_or (a := false) (b := false) (et_is (et_test (ev_cmp2 (a := ((SX.S (tk u.ts u.n)).length : Int)) (b := (g : Int)) (ev_lenS (z := SX.S (tk u.ts u.n)) (by exact ev_var rfl) (by rw [SX.S_len]; omega)) (by exact ev_var (d := .int (g : Nat)) rfl))) (by rw [SX.S_len]; exact decide_eq_false (by omega))) fun _ => ?_) rfl) ?_
  · rcases ht with rfl | ⟨n, rfl, hv⟩
    · exact et_is (et_and (a := false) (b := false) (et_is (et_test (ev_notN (ev_rdD (d := .none) rfl))) rfl) (fun z => nomatch z)) rfl
    · refine et_is (et_and (a := true) (b := false) (et_is (et_test (ev_notN (ev_rdD (d := .int n) rfl))) rfl) fun _ => et_is (et_test (ev_cmp2 (ev_intS (z := SX.S (tk u.ts u.n)) (n := (numV (tk u.ts u.n) : Nat)) (ev_var rfl) (int_tok hn (by omega)) (by rw [SX.S_len]; omega)) (ev_var (d := .int n) rfl))) (decide_eq_false (by omega))) rfl
  · refine gs_fldAug (k := 0) (i := 1) (g := fun i j => i + j) (x := (u.n : Nat)) (y := 1) (ns := ["tokens", "at"]) (fs := [cD K (.tuple (u.ts.map strD)), cI K (u.n : Nat)]) (ev_varP rfl C_pin) rfl (by decide +kernel) (by decide) rfl (by decide) T.cl_Cursor T.na_at ev_int ?_
    exact go_retI (ev_intS (z := SX.S (tk u.ts u.n)) (n := (numV (tk u.ts u.n) : Nat)) (ev_var rfl) (int_tok hn (by omega)) (by rw [SX.S_len]; omega)) (rt _ _ _ ⟨rfl, rfl⟩ (.keep cIns_pin C_pin (.no (.no .nil))))
theorem sc_Cursor_end : FnScope ["self"] ["self"] (defScope (inClass (topS 33) 5)) := ⟨rfl, rfl, rfl, by decide +kernel, rfl, by decide +kernel, by decide +kernel⟩
abbrev sp_Cursor_end (K : PySem.W.Frag) (a : Ad) : Sp := spR (fun i : {u : CU // u.ts.length ≤ u.n} => [i.1.c K a.Cursor]) (fun i cs' c' => c' = cN K ∧ cs' = [i.1.c K a.Cursor])
theorem ok_Cursor_end (T : Txt K mg a d) : FnOk P w K mg base CX0 1 a.Cursor_end d.Cursor_end ["self"] (sp_Cursor_end K a) := by
  refine T.F_Cursor_end.ok sc_Cursor_end (fun vs H Q E h => spR_len (n := 1) (fun _ => rfl) h) (fun cdv A outer s H vs Q E hr h => ?_)
  obtain ⟨i, B0, F0, rt, go⟩ := enter (N := ["self"]) h
  refine ⟨_, (pss_one (ps_if (pt_cmpR op_lt (pe_fld (pv 0) rfl) (pe_callB call_len_seq (by rfl) T.n_len PySem.boot_len (pa_cons (pe_fld (pv 0) rfl) pa_nil)) (nomark _))
      (pss_one ps_never)
      pss_nil)), go _ ?_⟩
  obtain ⟨u, hu⟩ := i
  have he : Ev (tVar 0) [u.c K a.Cursor] (Is (cV (.ref u.p))) := ev_varP rfl C_pin
  refine go_ifF (et_is (et_test (ev_cmp2 (ev_at (k := 0) T he rfl) (ev_lenT (ev_toks (k := 0) T he rfl)))) ?_) (go_nx (go_end (rt _ _ _ ⟨rfl, rfl⟩ (.keep C_pin C_pin .nil))))
  rw [List.length_map]
  exact decide_eq_false (by omega)
end
end Y
namespace Y
open PySem L2 Z M StX
section
variable {P : Program} {w : World} {K : PySem.W.Frag} {mg : Str → Option Value} {base : Heap} {a : Ad} {d : Fd}
abbrev Rel := List (List Nat) → Nat → List Int → Nat → Prop
def okR (l : List Int) : Prop := l.length ≤ 61 ∧ Bd BB l
def lows (ts : List (List Nat)) : Prop := ∀ t ∈ ts, low t
abbrev spS (K : PySem.W.Frag) (a : Ad) (S : Rel) (D : Nat) : Sp := spR (fun i : {x : CU × List Int × Nat // S x.1.ts x.1.n x.2.1 x.2.2 ∧ lows x.1.ts} => [i.1.1.c K a.Cursor, cI K (D : Nat)]) (fun i cs' c' => c' = cD K (tI i.1.2.1) ∧ cs' = [(CU.mk i.1.1.p i.1.1.ts i.1.2.2).c K a.Cursor, cNo])
section
variable {cs : List Cell} {te tb : TE} {k : Nat} {u : CU} {E : XK} {t : List Nat}
theorem evX_tup1 {d : PyData} {cs1 : List Cell} (h : EvX te cs (fun c cs' => c = cD K d ∧ cs' = cs1)) : EvX (tTup (tCons te tNil)) cs (fun c cs' => c = cD K (.tuple [d]) ∧ cs' = cs1) := fun B0 F0 ts us σ H hl S Q q =>
  h B0 F0 ts us σ H hl S _ fun c v cs' H1 ⟨r1, r2⟩ S1 => by
    subst r1 r2
    refine ⟨sz_of (by show 1 ≤ 100000; decide), fun p hp => q _ _ _ _ ⟨rfl, rfl⟩ (S1.new (ts := [cD K d]) (us := [some v]) rfl hp fun B F f1 hB hh => .tup (SqT.of upd_same) (dpAll_same (same_upd hB) ?_))⟩
    have e : Holds B F ([d].map (cD K)) ([v].map some) f1 := hh
    exact (holds_ds e).1
theorem evX_call1 {I : Type} {A : I → List PyData} {f : I → PyData} {cs1 : List Cell} {d : PyData} (i : I) (hA : A i = [d]) (h : EvX te cs (fun c cs' => c = cD K d ∧ cs' = cs1)) : EvX (tCall (spD K A f) [] E (tCons te tNil)) cs (fun c cs' => c = cD K (f i) ∧ cs' = cs1) := fun B0 F0 ts us σ H hl S Q q =>
  h B0 F0 ts us σ H hl S _ fun c v cs' H1 ⟨r1, r2⟩ S1 => by
    subst r1 r2
    show spR _ _ ([v] ++ []) H1 Q E
    rw [List.append_nil]
    refine call_sim i (by rw [hA]; rfl) (by rw [hA]; exact S1) fun w cs2 c' H' ⟨e1, e2⟩ S2 => ?_
    subst e1 e2
    exact q _ w _ H' ⟨rfl, rfl⟩ (Sim.cut (xs := (A i).map fun _ => cNo) (ys := [v].map some) (by rw [hA]; rfl) S2)
theorem go_retX {B0 F0 : Hp} {D : Ends} {c : Cell} {cs1 : List Cell} (h : EvX te cs (fun c' cs' => c' = c ∧ cs' = cs1)) (k : RtOk B0 F0 (c :: cs1) D.rt) : Go B0 F0 cs (tRet te D) := fun σ H S =>
  h B0 F0 [] [] σ H rfl S _ fun c' v cs' H' ⟨r1, r2⟩ S' => by
    subst r1 r2
    exact k σ H' v S'
/-- cursor.take(t) -/
theorem ev_take (hk : cs[k]? = some (u.c K a.Cursor)) (hb : Ev tb cs (Is (cD K (strD t)))) (ht : tk u.ts u.n = t) (lo : low t) : EvX (tMeth a.Cursor "take" (sp_Cursor_take K a) [] E (tVar k) (tCons tb tNil)) cs (fun _ cs' => cs' = cs.set k (u.on.c K a.Cursor)) :=
  ev_meth1 (I := {x : CU × List Nat // tk x.1.ts x.1.n = x.2 ∧ low x.2}) ⟨(u, t), ht, lo⟩ k hk (by decide +kernel) rfl (C_at hk) (ea_cons hb ea_nil) fun cs' c' po => ⟨_, cIns_pin, po.2, rfl⟩
/-- cursor.number(g, high) -/
theorem ev_number {g : Nat} {high : PyData} {th : TE} (hk : cs[k]? = some (u.c K a.Cursor)) (hb : Ev tb cs (Is (cI K (g : Nat)))) (hh : Ev th cs (Is (cD K high))) (lo : lows u.ts) (hn : numB (tk u.ts u.n) = true) (hl : (tk u.ts u.n).length ≤ g) (hg : g ≤ 600) (ht : topOk high (numV (tk u.ts u.n))) :
    EvX (tMeth a.Cursor "number" (sp_Cursor_number K a) [] E (tVar k) (tCons tb (tCons th tNil))) cs (fun c cs' => c = cI K (numV (tk u.ts u.n) : Nat) ∧ cs' = cs.set k (u.on.c K a.Cursor)) :=
  ev_meth1 (I := {x : CU × Nat × PyData // low (tk x.1.ts x.1.n) ∧ numB (tk x.1.ts x.1.n) = true ∧ (tk x.1.ts x.1.n).length ≤ x.2.1 ∧ x.2.1 ≤ 600 ∧ topOk x.2.2 (numV (tk x.1.ts x.1.n))}) ⟨(u, g, high), tk_low lo _, hn, hl, hg, ht⟩ k hk (by decide +kernel) rfl (C_at hk) (ea_cons hb (ea_cons hh ea_nil)) fun cs' c' po => ⟨_, cIns_pin, po.2, po.1, rfl⟩
/-- read_..(cursor, deep) -/
theorem ev_read {S : Rel} {D : Nat} {row : List Int} {j : Nat} (hk : cs[k]? = some (u.c K a.Cursor)) (hb : Ev tb cs (Is (cI K (D : Nat)))) (hS : S u.ts u.n row j) (lo : lows u.ts) : EvX (tCall (spS K a S D) [] E (tCons (tVar k) (tCons tb tNil))) cs (fun c cs' => c = cD K (tI row) ∧ cs' = cs.set k ((CU.mk u.p u.ts j).c K a.Cursor)) :=
  ev_callRN (I := {x : CU × List Int × Nat // S x.1.ts x.1.n x.2.1 x.2.2 ∧ lows x.1.ts}) k hk C_pin (fun i as => i = ⟨(u, row, j), hS, lo⟩ ∧ as = [cI K (D : Nat)]) (fun i as ⟨e1, e2⟩ => by rw [e1, e2]) ((ea_cons (C_at hk) (ea_cons hb ea_nil)).imp fun as e => ⟨⟨(u, row, j), hS, lo⟩, [cI K (D : Nat)], e, rfl, rfl⟩) fun i as cs' c' ⟨e1, e2⟩ po => by
    subst e1 e2
    exact ⟨_, cIns_pin, po.2, po.1, rfl⟩
end
def AtomOf (D : Nat) (S : Rel) : Rel := fun ts i row j => okR row ∧
  ((tk ts i = [120] ∧ row = [0, 1] ∧ j = i + 1) ∨ (tk ts i = [40] ∧ D < 20 ∧ ∃ j', S ts (i + 1) row j' ∧ tk ts j' = [41] ∧ j = j' + 1) ∨
   (numB (tk ts i) = true ∧ (tk ts i).length ≤ 60 ∧ row = trimI [(numV (tk ts i) : Int)] ∧ j = i + 1))
theorem num_no {t : List Nat} (h : numB t = true) (c : Nat) (hc : dg c = false) : t ≠ [c] := fun e => by
  subst e
  unfold numB at h
  simp [hc] at h
theorem sc_read_atom : FnScope ["cursor", "deep", "found"] ["cursor", "deep"] (defScope (topS 34)) := ⟨rfl, rfl, rfl, by decide +kernel, rfl, by decide +kernel, by decide +kernel⟩
theorem ok_read_atom {S : Rel} {D k : Nat} (hk : 8 ≤ k) (G : FnOk P w K mg base CX0 k a.read_sum d.read_sum ["cursor", "deep"] (spS K a S (D + 1))) (T : Txt K mg a d) : FnOk P w K mg base CX0 (k + 1) a.read_atom d.read_atom ["cursor", "deep"] (spS K a (AtomOf D S) D) := by
  refine T.F_read_atom.ok sc_read_atom (fun vs H Q E h => spR_len (n := 2) (fun _ => rfl) h) (fun cdv A outer s H vs Q E hr h => ?_)
  obtain ⟨i, B0, F0, rt, go⟩ := enter (N := ["cursor", "deep", "found"]) h
  refine ⟨_, (pss_cons (ps_if (pt_cmpR (op_eqD hr.units) (pe_meth0 (pv 0) T.cl_Cursor T.me_Cursor_ahead (ok_Cursor_ahead T) (hr.mono (by omega)) T.b_Cursor_ahead .nil pass0) pe_str (nomark _))
      (pss_cons (ps_expr (pe_meth (pv 0) T.cl_Cursor T.me_Cursor_take (ok_Cursor_take T) (hr.mono (by omega)) T.b_Cursor_take .nil pass0 (pa_cons pe_str pa_nil)))
      (pss_one (ps_ret (pe_tup (pa_cons pe_int (pa_cons pe_int pa_nil))))))
      pss_nil)
    (pss_cons (ps_if (PW.pt (pw_and (pt_cmpR (op_eqD hr.units) (pe_meth0 (pv 0) T.cl_Cursor T.me_Cursor_ahead (ok_Cursor_ahead T) (hr.mono (by omega)) T.b_Cursor_ahead .nil pass0) pe_str (nomark _)) (pw_and1 (pt_cmpR op_lt (pv 1) (pe_glob rfl T.c_MOST_DEEP.choose_spec.1 T.c_MOST_DEEP.choose_spec.2) (nomark _)))))
      (pss_cons (ps_expr (pe_meth (pv 0) T.cl_Cursor T.me_Cursor_take (ok_Cursor_take T) (hr.mono (by omega)) T.b_Cursor_take .nil pass0 (pa_cons pe_str pa_nil)))
      (pss_cons (ps_set (i := 2) sc_read_atom.nd rfl (Or.inl rfl) (pe_call G (hr.mono (by omega)) rfl T.m_read_sum T.F_read_sum.kp T.b_read_sum .nil pass0 (pa_cons (pv 0) (pa_cons (pe_op op_add (pv 1) pe_int) pa_nil))))
      (pss_cons (ps_expr (pe_meth (pv 0) T.cl_Cursor T.me_Cursor_take (ok_Cursor_take T) (hr.mono (by omega)) T.b_Cursor_take .nil pass0 (pa_cons pe_str pa_nil)))
      (pss_one (ps_ret (pv 2))))))
      pss_nil)
    (pss_one (ps_ret (pe_call (ok_trimmedT T) (hr.mono (by omega)) rfl T.m_trimmed T.F_trimmed.kp T.b_trimmed .nil pass0 (pa_cons (pe_tup (pa_cons (pe_meth (pv 0) T.cl_Cursor T.me_Cursor_number (ok_Cursor_number T) (hr.mono (by omega)) T.b_Cursor_number .nil pass0 (pa_cons (pe_glob rfl T.c_MOST_DIGITS.choose_spec.1 T.c_MOST_DIGITS.choose_spec.2) (pa_cons pe_non pa_nil))) pa_nil)) pa_nil)))))), go _ ?_⟩
  obtain ⟨⟨u, row, j⟩, hS, lo⟩ := i
  have rt' : ∀ c1 c2, RtOk B0 F0 (cD K (tI row) :: [(CU.mk u.p u.ts j).c K a.Cursor, c1, c2]) Q := fun c1 c2 => rt _ _ _ ⟨rfl, rfl⟩ (.keep C_pin C_pin (.no .nil))
  clear rt go h
  have hS2 : AtomOf D S u.ts u.n row j := hS
  have lo2 : lows u.ts := lo
  show Go B0 F0 [u.c K a.Cursor, cI K (D : Nat), cNo] _
  clear hS lo
  rename AtomOf D S u.ts u.n row j => hS
  rename lows u.ts => lo
  obtain ⟨okr, hc⟩ := hS
  have lt := tk_low lo u.n
  have tA : ∀ {c2 : Cell} (x : List Nat) (z : Str) (hz : z = SX.S x) (lx : low x), EvT (tTest (tOp (rEqD K) (tMeth a.Cursor "ahead" (sp_Cursor_ahead K a) [] E0 (tVar 0) tNil) (tC (.str z)))) [u.c K a.Cursor, cI K (D : Nat), c2] (fun b => b = decide (tk u.ts u.n = x)) := fun x z hz lx => et_test (ev_eqT (x := tk u.ts u.n) (ev_ahead (u := u) (k := 0) rfl) (ev_litT hz) lt lx)
  rcases hc with ⟨h1, h2, h3⟩ | ⟨h1, hD, j', h2, h3, h4⟩ | ⟨h1, h2, h3, h4⟩
  · have h2 : row = [0, 1] := h2
    have h3 : j = u.n + 1 := h3
    subst h2 h3
    refine gs_ifE (b := true) (et_is (tA [120] "x" (by decide +kernel) (low_one (by decide))) (by rw [show tk u.ts u.n = [120] from h1, decide_eq_true rfl])) (fun _ => ?_) (fun z => nomatch z)
    refine gs_dropX (ev_take (u := u) (k := 0) (t := [120]) rfl (ev_litT (by decide +kernel)) h1 (low_one (by decide))) fun c cs' r => ?_
    subst r
    exact go_retI (ev_tup (K := K) (ds := [.int 0, .int 1]) (ea_cons ev_int (ea_cons ev_int ea_nil)) (by simp)) (rt' _ _)
  · have h1 : tk u.ts u.n = [40] := h1
    have h4 : j = j' + 1 := h4
    subst h4
    refine gs_ifE (b := false) (et_is (tA [120] "x" (by decide +kernel) (low_one (by decide))) (by rw [h1]; decide)) (fun z => nomatch z) (fun _ => ?_)
    refine gs_ifE (b := true) (et_is (et_and (a := true) (b := true) (et_is (tA [40] "(" (by decide +kernel) (low_one (by decide))) (by rw [h1, decide_eq_true rfl])) fun _ => et_is (et_test (ev_cmp2 (ev_var (d := .int (D : Nat)) rfl) (ev_int (n := 20)))) (decide_eq_true (by omega))) rfl) (fun _ => ?_) (fun z => nomatch z)
    refine gs_dropX (ev_take (u := u) (k := 0) (t := [40]) rfl (ev_litT (by decide +kernel)) h1 (low_one (by decide))) fun c cs' r => ?_
    subst r
    refine gs_asgX (ev_read (u := u.on) (k := 0) (S := S) (D := D + 1) rfl ((ev_int20 (ev_var (d := .int (D : Nat)) rfl) (ev_int (n := 1))).il rfl) h2 lo) fun c cs' r => ?_
    obtain ⟨rfl, rfl⟩ := r
    refine gs_dropX (ev_take (u := CU.mk u.p u.ts j') (k := 0) (t := [41]) rfl (ev_litT (by decide +kernel)) h3 (low_one (by decide))) fun c cs' r => ?_
    subst r
    exact go_retI (ev_var rfl) (rt' _ _)
  · have h3 : row = trimI [(numV (tk u.ts u.n) : Int)] := h3
    have h4 : j = u.n + 1 := h4
    subst h3 h4
    refine gs_ifE (b := false) (et_is (tA [120] "x" (by decide +kernel) (low_one (by decide))) (decide_eq_false (num_no h1 120 (by decide)))) (fun z => nomatch z) (fun _ => ?_)
    refine gs_ifE (b := false) (et_is (et_and (a := false) (b := false) (et_is (tA [40] "(" (by decide +kernel) (low_one (by decide))) (decide_eq_false (num_no h1 40 (by decide)))) fun z => nomatch z) rfl) (fun z => nomatch z) (fun _ => ?_)
    exact go_retX (evX_call1 (d := tI [(numV (tk u.ts u.n) : Int)]) [(numV (tk u.ts u.n) : Int)] rfl (evX_tup1 (ev_number (u := u) (k := 0) (g := 60) (high := .none) rfl (ev_int (n := 60)) ev_non lo h1 h2 (by decide) (.inl rfl)))) (rt' _ _)
end
end Y
namespace Y
open PySem L2 Z M StX
section
variable {P : Program} {w : World} {K : PySem.W.Frag} {mg : Str → Option Value} {base : Heap} {a : Ad} {d : Fd}
section
variable {cs : List Cell} {ta tb tc : TE} {E : XK}
theorem evX_call2 {I : Type} {A : I → List PyData} {f : I → PyData} {cs1 : List Cell} {d1 d2 : PyData} (i : I) (hA : A i = [d1, d2]) (ha : Ev ta cs (Is (cD K d1))) (hb : EvX tb cs (fun c cs' => c = cD K d2 ∧ cs' = cs1)) : EvX (tCall (spD K A f) [] E (tCons ta (tCons tb tNil))) cs (fun c cs' => c = cD K (f i) ∧ cs' = cs1) := fun B0 F0 ts us σ H hl S Q q =>
  ha B0 F0 ts us σ H hl S _ fun c1 v1 H1 r1 S1 => hb B0 F0 (c1 :: ts) (some v1 :: us) σ H1 (congrArg (· + 1) hl) S1 _ fun c2 v2 cs' H2 ⟨r2, r3⟩ S2 => by
    subst r1 r2 r3
    show spR _ _ ([v1, v2] ++ []) H2 Q E
    rw [List.append_nil]
    refine call_sim i (by rw [hA]; rfl) (by rw [hA]; exact Sim.swap S2) fun w cs2 c' H' ⟨e1, e2⟩ S3 => ?_
    subst e1 e2
    exact q _ w _ H' ⟨rfl, rfl⟩ (Sim.cut (xs := (A i).map fun _ => cNo) (ys := [v1, v2].map some) (by rw [hA]; rfl) S3)
theorem evX_call3 {I : Type} {A : I → List PyData} {f : I → PyData} {cs1 : List Cell} {d1 d2 d3 : PyData} (i : I) (hA : A i = [d1, d2, d3]) (ha : Ev ta cs (Is (cD K d1))) (hb : EvX tb cs (fun c cs' => c = cD K d2 ∧ cs' = cs1)) (hc : Ev tc cs1 (Is (cD K d3))) : EvX (tCall (spD K A f) [] E (tCons ta (tCons tb (tCons tc tNil)))) cs (fun c cs' => c = cD K (f i) ∧ cs' = cs1) := fun B0 F0 ts us σ H hl S Q q =>
  ha B0 F0 ts us σ H hl S _ fun c1 v1 H1 r1 S1 => hb B0 F0 (c1 :: ts) (some v1 :: us) σ H1 (congrArg (· + 1) hl) S1 _ fun c2 v2 cs' H2 ⟨r2, r3⟩ S2 => by
    subst r3
    refine hc B0 F0 (c2 :: c1 :: ts) (some v2 :: some v1 :: us) σ H2 (congrArg (· + 2) hl) S2 _ fun c3 v3 H3 r4 S3 => ?_
    subst r1 r2 r4
    show spR _ _ ([v1, v2, v3] ++ []) H3 Q E
    rw [List.append_nil]
    have S4 : Sim B0 F0 ([cD K d1, cD K d2, cD K d3] ++ (ts ++ cs')) ([some v1, some v2, some v3] ++ (us ++ σ)) H3 := by
      have z := Sim.front (xs := [cD K d3, cD K d2]) (ys := [some v3, some v2]) (c := cD K d1) (v := some v1) (cs := ts ++ cs') (σ := us ++ σ) rfl S3
      have z2 : Sim B0 F0 (cD K d1 :: cD K d3 :: cD K d2 :: (ts ++ cs')) (some v1 :: some v3 :: some v2 :: (us ++ σ)) H3 := z
      have z3 := Sim.front (xs := [cD K d1, cD K d3]) (ys := [some v1, some v3]) (c := cD K d2) (v := some v2) (cs := ts ++ cs') (σ := us ++ σ) rfl z2
      have z4 : Sim B0 F0 (cD K d2 :: cD K d1 :: cD K d3 :: (ts ++ cs')) (some v2 :: some v1 :: some v3 :: (us ++ σ)) H3 := z3
      exact z4.swap
    refine call_sim i (by rw [hA]; rfl) (by rw [hA]; exact S4) fun w cs2 c' H' ⟨e1, e2⟩ S5 => ?_
    subst e1 e2
    exact q _ w _ H' ⟨rfl, rfl⟩ (Sim.cut (xs := (A i).map fun _ => cNo) (ys := [v1, v2, v3].map some) (by rw [hA]; rfl) S5)
end
def powI (b : List Int) : Nat → List Int
  | 0 => [1]
  | k + 1 => mulI (powI b k) b
def PowOf (At : Rel) : Rel := fun ts i row j => (At ts i row j ∧ tk ts j ≠ [94]) ∨ ∃ base j1, At ts i base j1 ∧ okR base ∧ tk ts j1 = [94] ∧ numB (tk ts (j1 + 1)) = true ∧ (tk ts (j1 + 1)).length ≤ 2 ∧ numV (tk ts (j1 + 1)) ≤ 60 ∧ (∀ k, k ≤ numV (tk ts (j1 + 1)) → okR (powI base k)) ∧ row = powI base (numV (tk ts (j1 + 1))) ∧ j = j1 + 1 + 1
def RLn (Pw : Rel) (ts : List (List Nat)) : Nat → List Int → Nat → List Int → Nat → Prop
  | 0, row, i, row', k => tk ts i ≠ [42] ∧ row' = row ∧ k = i
  | m + 1, row, i, row', k => ∃ r2 j, tk ts i = [42] ∧ Pw ts (i + 1) r2 j ∧ okR row ∧ okR r2 ∧ okR (mulI row r2) ∧ RLn Pw ts m (mulI row r2) j row' k
def ProdOf (Pw : Rel) : Rel := fun ts i row j => ∃ r1 j1 m, Pw ts i r1 j1 ∧ RLn Pw ts m r1 j1 row j
def SLn (Pd : Rel) (ts : List (List Nat)) : Nat → List Int → Nat → List Int → Nat → Prop
  | 0, row, i, row', k => tk ts i ≠ [43] ∧ tk ts i ≠ [45] ∧ row' = row ∧ k = i
  | m + 1, row, i, row', k => ∃ (s : Int) (r2 : List Int) (j : Nat), ((tk ts i = [43] ∧ s = 1) ∨ (tk ts i = [45] ∧ s = -1)) ∧ Pd ts (i + 1) r2 j ∧ okR row ∧ okR r2 ∧ SLn Pd ts m (addI row r2 s) j row' k
def SumOf (Pd : Rel) : Rel := fun ts i row j => ∃ (s : Int) (i0 : Nat) (r1 : List Int) (j1 m : Nat), ((tk ts i = [45] ∧ s = -1 ∧ i0 = i + 1) ∨ (tk ts i ≠ [45] ∧ s = 1 ∧ i0 = i)) ∧ Pd ts i0 r1 j1 ∧ okR r1 ∧ SLn Pd ts m (addI [] r1 s) j1 row j
theorem okR_len {r : List Int} (h : okR r) : r.length ≤ 1000 := Nat.le_trans h.1 (by decide)
theorem okR_rp {x y : List Int} (h : okR x) (k : okR y) : RP.ok (RP.mk x y) := RP.is (okR_len h) (okR_len k) h.2 k.2
theorem fit_mul {x y : List Int} (h : okR (mulI x y)) : (trimI (mulI x y)).length ≤ 61 := Nat.le_trans (trim_len _) h.1
theorem trim_mul (x y : List Int) : trimI (mulI x y) = mulI x y := tr_mulI x y
theorem sc_read_power : FnScope ["cursor", "deep", "base", "many", "found", "turn"] ["cursor", "deep"] (defScope (topS 35)) := ⟨rfl, rfl, rfl, by decide +kernel, rfl, by decide +kernel, by decide +kernel⟩
theorem ok_read_power {S : Rel} {D k : Nat} (hk : 8 ≤ k) (G : FnOk P w K mg base CX0 k a.read_atom d.read_atom ["cursor", "deep"] (spS K a S D)) (T : Txt K mg a d) : FnOk P w K mg base CX0 (k + 1) a.read_power d.read_power ["cursor", "deep"] (spS K a (PowOf S) D) := by
  refine T.F_read_power.ok sc_read_power (fun vs H Q E h => spR_len (n := 2) (fun _ => rfl) h) (fun cdv A outer s H vs Q E hr h => ?_)
  obtain ⟨i, B0, F0, rt, go⟩ := enter (N := ["cursor", "deep", "base", "many", "found", "turn"]) h
  refine ⟨_, (pss_cons (ps_set (i := 2) sc_read_power.nd rfl (Or.inl rfl) (pe_call G (hr.mono (by omega)) rfl T.m_read_atom T.F_read_atom.kp T.b_read_atom .nil pass0 (pa_cons (pv 0) (pa_cons (pv 1) pa_nil))))
    (pss_cons (ps_if (pt_cmpR (op_neD hr.units) (pe_meth0 (pv 0) T.cl_Cursor T.me_Cursor_ahead (ok_Cursor_ahead T) (hr.mono (by omega)) T.b_Cursor_ahead .nil pass0) pe_str (nomark _))
      (pss_one (ps_ret (pv 2)))
      pss_nil)
    (pss_cons (ps_expr (pe_meth (pv 0) T.cl_Cursor T.me_Cursor_take (ok_Cursor_take T) (hr.mono (by omega)) T.b_Cursor_take .nil pass0 (pa_cons pe_str pa_nil)))
    (pss_cons (ps_set (i := 3) sc_read_power.nd rfl (Or.inl rfl) (pe_meth (pv 0) T.cl_Cursor T.me_Cursor_number (ok_Cursor_number T) (hr.mono (by omega)) T.b_Cursor_number .nil pass0 (pa_cons pe_int (pa_cons (pe_op op_sub (pe_glob rfl T.c_MOST_PLACES.choose_spec.1 T.c_MOST_PLACES.choose_spec.2) pe_int) pa_nil))))
    (pss_cons (ps_set (i := 4) sc_read_power.nd rfl (Or.inl rfl) (pe_tup (pa_cons pe_int pa_nil)))
    (pss_cons (ps_for PassesOwn.never rfl (pi_range1 (by rfl) T.n_range (pa_cons (pv 3) pa_nil)) (pg_name (i := 5) sc_read_power.nd rfl (Or.inl rfl))
      (pss_one (ps_set (i := 4) sc_read_power.nd rfl (Or.inl rfl) (pe_call (ok_fitting T) (hr.mono (by omega)) rfl T.m_fitting T.F_fitting.kp T.b_fitting .nil pass0 (pa_cons (pe_call (ok_row_product T) (hr.mono (by omega)) rfl T.m_row_product T.F_row_product.kp T.b_row_product .nil pass0 (pa_cons (pv 4) (pa_cons (pv 2) pa_nil))) pa_nil)))))
    (pss_one (ps_ret (pv 4))))))))), go _ ?_⟩
  obtain ⟨⟨u, row, j⟩, hS, lo⟩ := i
  have rt' : ∀ c1 c2 c3 c4 c5, RtOk B0 F0 (cD K (tI row) :: [(CU.mk u.p u.ts j).c K a.Cursor, c1, c2, c3, c4, c5]) Q := fun c1 c2 c3 c4 c5 => rt _ _ _ ⟨rfl, rfl⟩ (.keep C_pin C_pin (.no .nil))
  clear rt go h
  have hS2 : PowOf S u.ts u.n row j := hS
  have lo2 : lows u.ts := lo
  show Go B0 F0 [u.c K a.Cursor, cI K (D : Nat), cNo, cNo, cNo, cNo] _
  clear hS lo
  rename PowOf S u.ts u.n row j => hS
  rename lows u.ts => lo
  rcases hS with ⟨h1, h2⟩ | ⟨bs, j1, h1, hb, h2, h3, h4, h5, h6, h7, h8⟩
  · refine gs_asgX (ev_read (u := u) (k := 0) (S := S) (D := D) rfl (ev_var rfl) h1 lo) fun c cs' r => ?_
    obtain ⟨rfl, rfl⟩ := r
    refine gs_ifE (b := true) (et_is (et_test (ev_neT (x := tk u.ts j) (y := [94]) (ev_ahead (u := CU.mk u.p u.ts j) (k := 0) rfl) (ev_litT (by decide +kernel)) (tk_low lo j) (low_one (by decide)))) (by rw [decide_eq_false h2]; rfl)) (fun _ => ?_) (fun z => nomatch z)
    exact go_retI (ev_var rfl) (rt' _ _ _ _ _)
  · subst h7 h8
    refine gs_asgX (ev_read (u := u) (k := 0) (S := S) (D := D) rfl (ev_var rfl) h1 lo) fun c cs' r => ?_
    obtain ⟨rfl, rfl⟩ := r
    refine gs_ifE (b := false) (et_is (et_test (ev_neT (x := tk u.ts j1) (y := [94]) (ev_ahead (u := CU.mk u.p u.ts j1) (k := 0) rfl) (ev_litT (by decide +kernel)) (tk_low lo j1) (low_one (by decide)))) (by rw [h2, decide_eq_true rfl]; rfl)) (fun z => nomatch z) (fun _ => ?_)
    refine gs_dropX (ev_take (u := CU.mk u.p u.ts j1) (k := 0) (t := [94]) rfl (ev_litT (by decide +kernel)) h2 (low_one (by decide))) fun c cs' r => ?_
    subst r
    refine gs_asgX (ev_number (u := CU.mk u.p u.ts (j1 + 1)) (k := 0) (g := 2) (high := .int 60) rfl (ev_int (n := 2)) ((ev_int20 (ev_int (n := 61)) (ev_int (n := 1))).il (m := 60) rfl) lo h3 h4 (by decide) (.inr ⟨60, rfl, by show ((numV (tk u.ts (j1 + 1)) : Nat) : Int) ≤ 60; omega⟩)) fun c cs' r => ?_
    obtain ⟨rfl, rfl⟩ := r
    have h5' : numV (tk u.ts (j1 + 1)) ≤ 60 := h5
    refine gs_set (ev_tup (K := K) (ds := [.int 1]) (ea_cons ev_int ea_nil) (by simp)) ?_
    refine gs_for (js := [5]) (ei_rng1 (n := (numV (tk u.ts (j1 + 1)) : Nat)) (ev_var rfl) (by omega)) (fun i cs' => ∃ c5, cs' = [(CU.mk u.p u.ts (j1 + 1 + 1)).c K a.Cursor, cI K (D : Nat), cD K (tI bs), cI K (numV (tk u.ts (j1 + 1)) : Nat), cD K (tI (powI bs i)), c5]) ⟨cNo, rfl⟩ ?_ ?_
    · rintro B1 sB i c cs' hi rfl ⟨c5, rfl⟩
      have hi' : i < numV (tk u.ts (j1 + 1)) := by omega
      have o1 := h6 i (by omega)
      have o2 : okR (mulI (powI bs i) bs) := h6 (i + 1) (by omega)
      refine ⟨_, tg_name, go_set ((ev_callP (mulI (powI bs i) bs) (fit_mul o2) (ea_cons (ev_callP (RP.mk (powI bs i) bs) (okR_rp o1 hb) (ea_cons (ev_var rfl) (ea_cons (ev_var rfl) ea_nil))) ea_nil)).eq (congrArg tI (trim_mul _ _))) (go_mid ⟨cI K (i : Nat), rfl⟩)⟩
    · rintro cs' ⟨c5, rfl⟩
      have e : ((numV (tk u.ts (j1 + 1)) : Nat) : Int).toNat = numV (tk u.ts (j1 + 1)) := Int.toNat_natCast _
      rw [e]
      exact go_retI (ev_var rfl) (rt' _ _ _ _ _)
theorem sc_read_product : FnScope ["cursor", "deep", "found"] ["cursor", "deep"] (defScope (topS 36)) := ⟨rfl, rfl, rfl, by decide +kernel, rfl, by decide +kernel, by decide +kernel⟩
theorem ok_read_product {S : Rel} {D k : Nat} (hk : 8 ≤ k) (G : FnOk P w K mg base CX0 k a.read_power d.read_power ["cursor", "deep"] (spS K a S D)) (T : Txt K mg a d) : FnOk P w K mg base CX0 (k + 1) a.read_product d.read_product ["cursor", "deep"] (spS K a (ProdOf S) D) := by
  refine T.F_read_product.ok sc_read_product (fun vs H Q E h => spR_len (n := 2) (fun _ => rfl) h) (fun cdv A outer s H vs Q E hr h => ?_)
  obtain ⟨i, B0, F0, rt, go⟩ := enter (N := ["cursor", "deep", "found"]) h
  refine ⟨_, (pss_cons (ps_set (i := 2) sc_read_product.nd rfl (Or.inl rfl) (pe_call G (hr.mono (by omega)) rfl T.m_read_power T.F_read_power.kp T.b_read_power .nil pass0 (pa_cons (pv 0) (pa_cons (pv 1) pa_nil))))
    (pss_cons (ps_while PassesOwn.never (pt_cmpR (op_eqD hr.units) (pe_meth0 (pv 0) T.cl_Cursor T.me_Cursor_ahead (ok_Cursor_ahead T) (hr.mono (by omega)) T.b_Cursor_ahead .nil pass0) pe_str (nomark _))
      (pss_cons (ps_expr (pe_meth (pv 0) T.cl_Cursor T.me_Cursor_take (ok_Cursor_take T) (hr.mono (by omega)) T.b_Cursor_take .nil pass0 (pa_cons pe_str pa_nil)))
      (pss_one (ps_set (i := 2) sc_read_product.nd rfl (Or.inl rfl) (pe_call (ok_fitting T) (hr.mono (by omega)) rfl T.m_fitting T.F_fitting.kp T.b_fitting .nil pass0 (pa_cons (pe_call (ok_row_product T) (hr.mono (by omega)) rfl T.m_row_product T.F_row_product.kp T.b_row_product .nil pass0 (pa_cons (pv 2) (pa_cons (pe_call G (hr.mono (by omega)) rfl T.m_read_power T.F_read_power.kp T.b_read_power .nil pass0 (pa_cons (pv 0) (pa_cons (pv 1) pa_nil))) pa_nil))) pa_nil))))))
    (pss_one (ps_ret (pv 2))))), go _ ?_⟩
  obtain ⟨⟨u, row, j⟩, hS, lo⟩ := i
  have rt' : ∀ c1 c2, RtOk B0 F0 (cD K (tI row) :: [(CU.mk u.p u.ts j).c K a.Cursor, c1, c2]) Q := fun c1 c2 => rt _ _ _ ⟨rfl, rfl⟩ (.keep C_pin C_pin (.no .nil))
  clear rt go h
  have hS2 : ProdOf S u.ts u.n row j := hS
  have lo2 : lows u.ts := lo
  show Go B0 F0 [u.c K a.Cursor, cI K (D : Nat), cNo] _
  clear hS lo
  rename ProdOf S u.ts u.n row j => hS
  rename lows u.ts => lo
  obtain ⟨r1, j1, m, h1, hL⟩ := hS
  refine gs_asgX (ev_read (u := u) (k := 0) (S := S) (D := D) rfl (ev_var rfl) h1 lo) fun c cs' r => ?_
  obtain ⟨rfl, rfl⟩ := r
  refine gs_while (W := fun m cs' => ∃ r1 j1, cs' = [(CU.mk u.p u.ts j1).c K a.Cursor, cI K (D : Nat), cD K (tI r1)] ∧ RLn S u.ts m r1 j1 row j) m ⟨r1, j1, rfl, hL⟩ ?_
  rintro m cs' ⟨r1, j1, rfl, hL⟩
  have ht := et_test (K := K) (ev_eqT (K := K) (x := tk u.ts j1) (y := [42]) (cs := [(CU.mk u.p u.ts j1).c K a.Cursor, cI K (D : Nat), cD K (tI r1)]) (ev_ahead (K := K) (a := a) (E := E0) (u := CU.mk u.p u.ts j1) (k := 0) rfl) (ev_litT (z := "*") (by decide +kernel)) (tk_low lo j1) (low_one (by decide)))
  cases m with
  | zero =>
    obtain ⟨q1, rfl, rfl⟩ := hL
    exact ⟨false, et_is ht (decide_eq_false q1), (fun z => by cases z), fun _ => go_retI (ev_var rfl) (rt' _ _)⟩
  | succ m =>
    obtain ⟨r2, j2, q1, q2, o1, o2, o3, q3⟩ := hL
    refine ⟨true, et_is ht (decide_eq_true q1), fun _ => ?_, (fun z => by cases z)⟩
    refine gs_dropX (ev_take (u := CU.mk u.p u.ts j1) (k := 0) (t := [42]) rfl (ev_litT (by decide +kernel)) q1 (low_one (by decide))) fun c cs' r => ?_
    subst r
    refine go_asgX (evX_call1 (d := tI (mulI r1 r2)) (⟨mulI r1 r2, fit_mul o3⟩ : {x : List Int // (trimI x).length ≤ 61}) rfl (evX_call2 (d1 := tI r1) (d2 := tI r2) (⟨RP.mk r1 r2, okR_rp o1 o2⟩ : {x : RP // RP.ok x}) rfl (ev_var rfl) (ev_read (u := CU.mk u.p u.ts (j1 + 1)) (k := 0) (S := S) (D := D) rfl (ev_var rfl) q2 lo))) fun c cs' r => ?_
    obtain ⟨rfl, rfl⟩ := r
    refine go_mid ⟨m, Nat.lt_succ_self m, mulI r1 r2, j2, ?_, q3⟩
    exact congrArg (fun z => [(CU.mk u.p u.ts j2).c K a.Cursor, cI K (D : Nat), cD K (tI z)]) (trim_mul r1 r2)
end
end Y
namespace Y
open PySem L2 Z M StX
section
variable {P : Program} {w : World} {K : PySem.W.Frag} {mg : Str → Option Value} {base : Heap} {a : Ad} {d : Fd}
theorem mone_b : (-1 : Int).natAbs < 2 ^ BB := one_big
theorem sc_read_sum : FnScope ["cursor", "deep", "sign", "found"] ["cursor", "deep"] (defScope (topS 37)) := ⟨rfl, rfl, rfl, by decide +kernel, rfl, by decide +kernel, by decide +kernel⟩
theorem ok_read_sum {S : Rel} {D k : Nat} (hk : 8 ≤ k) (G : FnOk P w K mg base CX0 k a.read_product d.read_product ["cursor", "deep"] (spS K a S D)) (T : Txt K mg a d) : FnOk P w K mg base CX0 (k + 1) a.read_sum d.read_sum ["cursor", "deep"] (spS K a (SumOf S) D) := by
  refine T.F_read_sum.ok sc_read_sum (fun vs H Q E h => spR_len (n := 2) (fun _ => rfl) h) (fun cdv A outer s H vs Q E hr h => ?_)
  obtain ⟨i, B0, F0, rt, go⟩ := enter (N := ["cursor", "deep", "sign", "found"]) h
  refine ⟨_, (pss_cons (ps_set (i := 2) sc_read_sum.nd rfl (Or.inl rfl) pe_int)
    (Evl.pss_cut (ps_if (pt_cmpR (op_eqD hr.units) (pe_meth0 (pv 0) T.cl_Cursor T.me_Cursor_ahead (ok_Cursor_ahead T) (hr.mono (by omega)) T.b_Cursor_ahead .nil pass0) pe_str (nomark _))
      (pss_cons (ps_expr (pe_meth (pv 0) T.cl_Cursor T.me_Cursor_take (ok_Cursor_take T) (hr.mono (by omega)) T.b_Cursor_take .nil pass0 (pa_cons pe_str pa_nil)))
      (pss_one (ps_set (i := 2) sc_read_sum.nd rfl (Or.inl rfl) (pe_un un_neg pe_int))))
      pss_nil)
    (pss_cons (ps_set (i := 3) sc_read_sum.nd rfl (Or.inl rfl) (pe_call (ok_row_sum T) (hr.mono (by omega)) rfl T.m_row_sum T.F_row_sum.kp T.b_row_sum .nil pass0 (pa_cons (pe_tup pa_nil) (pa_cons (pe_call G (hr.mono (by omega)) rfl T.m_read_product T.F_read_product.kp T.b_read_product .nil pass0 (pa_cons (pv 0) (pa_cons (pv 1) pa_nil))) (pa_cons (pv 2) pa_nil)))))
    (pss_cons (ps_while PassesOwn.never (pt_cmpR op_in_seq (pe_meth0 (pv 0) T.cl_Cursor T.me_Cursor_ahead (ok_Cursor_ahead T) (hr.mono (by omega)) T.b_Cursor_ahead .nil pass0) (pe_tup (pa_cons pe_str (pa_cons pe_str pa_nil))) (by rfl))
      (pss_cons (ps_set (i := 2) sc_read_sum.nd rfl (Or.inl rfl) (pe_ifExp (pt_cmpR (op_eqD hr.units) (pe_meth0 (pv 0) T.cl_Cursor T.me_Cursor_ahead (ok_Cursor_ahead T) (hr.mono (by omega)) T.b_Cursor_ahead .nil pass0) pe_str (nomark _)) pe_int (pe_un un_neg pe_int)))
      (pss_cons (ps_expr (pe_meth (pv 0) T.cl_Cursor T.me_Cursor_take (ok_Cursor_take T) (hr.mono (by omega)) T.b_Cursor_take .nil pass0 (pa_cons (pe_meth0 (pv 0) T.cl_Cursor T.me_Cursor_ahead (ok_Cursor_ahead T) (hr.mono (by omega)) T.b_Cursor_ahead .nil pass0) pa_nil)))
      (pss_one (ps_set (i := 3) sc_read_sum.nd rfl (Or.inl rfl) (pe_call (ok_row_sum T) (hr.mono (by omega)) rfl T.m_row_sum T.F_row_sum.kp T.b_row_sum .nil pass0 (pa_cons (pv 3) (pa_cons (pe_call G (hr.mono (by omega)) rfl T.m_read_product T.F_read_product.kp T.b_read_product .nil pass0 (pa_cons (pv 0) (pa_cons (pv 1) pa_nil))) (pa_cons (pv 2) pa_nil)))))))))
    (pss_one (ps_ret (pv 3))))))), go _ ?_⟩
  obtain ⟨⟨u, row, j⟩, hS, lo⟩ := i
  have rt' : ∀ c1 c2 c3, RtOk B0 F0 (cD K (tI row) :: [(CU.mk u.p u.ts j).c K a.Cursor, c1, c2, c3]) Q := fun c1 c2 c3 => rt _ _ _ ⟨rfl, rfl⟩ (.keep C_pin C_pin (.no .nil))
  clear rt go h
  have hS2 : SumOf S u.ts u.n row j := hS
  have lo2 : lows u.ts := lo
  show Go B0 F0 [u.c K a.Cursor, cI K (D : Nat), cNo, cNo] _
  clear hS lo
  rename SumOf S u.ts u.n row j => hS
  rename lows u.ts => lo
  obtain ⟨s, i0, r1, j1, m, hs, h1, o1, hL⟩ := hS
  have sb : s.natAbs < 2 ^ BB := by
    rcases hs with ⟨_, rfl, _⟩ | ⟨_, rfl, _⟩
    · exact mone_b
    · exact one_big
  have adds : ∀ {x y : List Int} {s : Int}, okR y → s.natAbs < 2 ^ BB → x.length ≤ 1000 → RS.ok (RS.mk x y s) := fun oy sb lx => RS.is lx (okR_len oy) sb oy.2
  refine gs_set (c := cI K 1) ev_int ?_
  have ht := et_test (K := K) (ev_eqT (K := K) (x := tk u.ts u.n) (y := [45]) (cs := [u.c K a.Cursor, cI K (D : Nat), cI K 1, cNo]) (ev_ahead (K := K) (a := a) (E := E0) (u := u) (k := 0) rfl) (ev_litT (z := "-") (by decide +kernel)) (tk_low lo u.n) (low_one (by decide)))
  refine go_cut (fun cs' => cs' = [(CU.mk u.p u.ts i0).c K a.Cursor, cI K (D : Nat), cI K s, cNo]) (go_if ht (fun hb => ?_) (fun hb => ?_)) ?_
  · have hb := of_decide_eq_true hb
    rcases hs with ⟨q1, rfl, rfl⟩ | ⟨q1, _, _⟩
    · refine gs_dropX (ev_take (u := u) (k := 0) (t := [45]) rfl (ev_litT (by decide +kernel)) q1 (low_one (by decide))) fun c cs' r => ?_
      subst r
      exact go_set (c := cI K (-1)) ((ev_neg (K := K) (ev_int (n := 1))).il (m := -1) rfl) (go_mid rfl)
    · exact absurd hb q1
  · have hb := of_decide_eq_false hb
    rcases hs with ⟨q1, _, _⟩ | ⟨q1, rfl, rfl⟩
    · exact absurd q1 hb
    · exact go_nx (go_mid rfl)
  · rintro cs' rfl
    refine gs_asgX (evX_call3 (d1 := tI []) (d2 := tI r1) (d3 := .int s) (⟨RS.mk [] r1 s, adds o1 sb (Nat.zero_le _)⟩ : {x : RS // RS.ok x}) rfl (ev_tup (ds := []) ea_nil (by decide)) (ev_read (u := CU.mk u.p u.ts i0) (k := 0) (S := S) (D := D) rfl (ev_var rfl) h1 lo) (ev_var rfl)) fun c cs' r => ?_
    obtain ⟨rfl, rfl⟩ := r
    refine gs_while (W := fun m cs' => ∃ r1 j1 s, cs' = [(CU.mk u.p u.ts j1).c K a.Cursor, cI K (D : Nat), cI K s, cD K (tI r1)] ∧ SLn S u.ts m r1 j1 row j) m ⟨addI [] r1 s, j1, s, rfl, hL⟩ ?_
    rintro m cs' ⟨r1, j1, s0, rfl, hL⟩
    have ah : Ev (tMeth a.Cursor "ahead" (sp_Cursor_ahead K a) [] E0 (tVar 0) tNil) [(CU.mk u.p u.ts j1).c K a.Cursor, cI K (D : Nat), cI K s0, cD K (tI r1)] (Is (cD K (strD (tk u.ts j1)))) := ev_ahead (K := K) (a := a) (E := E0) (u := CU.mk u.p u.ts j1) (k := 0) rfl
    have hw := et_test (K := K) (ev_inTs (K := K) (x := SX.S (tk u.ts j1)) (ss := [SX.S [43], SX.S [45]]) ah (ev_tup (ds := [.str (SX.S [43]), .str (SX.S [45])]) (ea_cons (ev_litT (z := "+") (x := [43]) (by decide +kernel)) (ea_cons (ev_litT (z := "-") (x := [45]) (by decide +kernel)) ea_nil)) (by simp)))
    have hv : ([SX.S [43], SX.S [45]].any fun s => s == SX.S (tk u.ts j1)) = (decide ([43] = tk u.ts j1) || decide ([45] = tk u.ts j1)) := by
      show ((SX.S [43] == SX.S (tk u.ts j1)) || ((SX.S [45] == SX.S (tk u.ts j1)) || false)) = _
      rw [S_eq, S_eq, Bool.or_false]
    rw [hv] at hw
    cases m with
    | zero =>
      obtain ⟨q1, q2, rfl, rfl⟩ := hL
      exact ⟨false, et_is hw (by rw [decide_eq_false (Ne.symm q1), decide_eq_false (Ne.symm q2)]; rfl), (fun z => by cases z), fun _ => go_retI (ev_var rfl) (rt' _ _ _)⟩
    | succ m =>
      obtain ⟨s1, r2, j2, q1, q2, o1, o2, q3⟩ := hL
      have sb : s1.natAbs < 2 ^ BB := by
        rcases q1 with ⟨_, rfl⟩ | ⟨_, rfl⟩
        · exact one_big
        · exact mone_b
      refine ⟨true, et_is hw (by rcases q1 with ⟨q, _⟩ | ⟨q, _⟩ <;> rw [q] <;> decide), fun _ => ?_, (fun z => by cases z)⟩
      refine gs_set (c := cI K s1) (ev_if (b := decide (tk u.ts j1 = [43])) (et_test (ev_eqT ah (ev_litT (z := "+") (by decide +kernel)) (tk_low lo j1) (low_one (by decide)))) (fun hb => ?_) (fun hb => ?_)) ?_
      · have hb := of_decide_eq_true hb
        rcases q1 with ⟨_, rfl⟩ | ⟨q, _⟩
        · exact ev_int
        · rw [hb] at q
          cases q
      · have hb := of_decide_eq_false hb
        rcases q1 with ⟨q, _⟩ | ⟨_, rfl⟩
        · exact absurd q hb
        · exact (ev_neg (K := K) (ev_int (n := 1))).il (m := -1) rfl
      · refine gs_dropX (ev_take (u := CU.mk u.p u.ts j1) (k := 0) (t := tk u.ts j1) rfl (ev_ahead (u := CU.mk u.p u.ts j1) (k := 0) rfl) rfl (tk_low lo j1)) fun c cs' r => ?_
        subst r
        refine go_asgX (evX_call3 (d1 := tI r1) (d2 := tI r2) (d3 := .int s1) (⟨RS.mk r1 r2 s1, adds o2 sb (okR_len o1)⟩ : {x : RS // RS.ok x}) rfl (ev_var rfl) (ev_read (u := CU.mk u.p u.ts (j1 + 1)) (k := 0) (S := S) (D := D) rfl (ev_var rfl) q2 lo) (ev_var rfl)) fun c cs' r => ?_
        obtain ⟨rfl, rfl⟩ := r
        exact go_mid ⟨m, Nat.lt_succ_self m, addI r1 r2 s1, j2, s1, rfl, q3⟩
/-- a sum, so many brackets deep at most; ahead of it stand 20 - n -/
def SumN : Nat → Rel
  | 0 => SumOf (ProdOf (PowOf (AtomOf 20 fun _ _ _ _ => False)))
  | n + 1 => SumOf (ProdOf (PowOf (AtomOf (20 - (n + 1)) (SumN n))))
theorem ok_noSum (k : Nat) (D : Nat) : FnOk P w K mg base CX0 k a.read_sum d.read_sum ["cursor", "deep"] (spS K a (fun _ _ _ _ => False) D) := by
  have no : ∀ {vs H Q E}, ¬ spS K a (fun _ _ _ _ => False) D vs H Q E := fun h => by
    obtain ⟨⟨_, hi, _⟩, _⟩ := h
    exact hi
  exact ⟨fun vs H Q E h => absurd h no, fun A outer s H args us vs Q E _ _ _ _ h => absurd h no⟩
theorem ok_sumN (T : Txt K mg a d) : ∀ n, n ≤ 20 → FnOk P w K mg base CX0 (12 + 4 * n) a.read_sum d.read_sum ["cursor", "deep"] (spS K a (SumN n) (20 - n))
  | 0, _ => ok_read_sum (k := 11) (by decide) (ok_read_product (k := 10) (by decide) (ok_read_power (k := 9) (by decide) (ok_read_atom (k := 8) (by decide) (ok_noSum 8 21) T) T) T) T
  | n + 1, h => by
    have G := ok_sumN T n (by omega)
    have e : 20 - n = 20 - (n + 1) + 1 := by omega
    rw [e] at G
    exact ok_read_sum (k := 12 + 4 * n + 3) (by omega) (ok_read_product (k := 12 + 4 * n + 2) (by omega) (ok_read_power (k := 12 + 4 * n + 1) (by omega) (ok_read_atom (k := 12 + 4 * n) (by omega) G T) T) T) T
theorem ok_read_sum0 (T : Txt K mg a d) : FnOk P w K mg base CX0 92 a.read_sum d.read_sum ["cursor", "deep"] (spS K a (SumN 20) 0) := ok_sumN T 20 (Nat.le_refl _)
end
end Y
namespace Y
open PySem L2 Z M StX
section
variable {P : Program} {w : World} {K : PySem.W.Frag} {mg : Str → Option Value} {base : Heap} {a : Ad} {d : Fd}
theorem low_tkF : ∀ {l : List Nat} {f : List (List Nat)} {r : List Nat}, low l → lows f → low r → lows (tkF l f r)
  | [], f, r, _, hf, hr => by
    show lows (shut f r)
    unfold shut
    split
    · exact hf
    · intro t ht
      rcases List.mem_append.mp ht with q | q
      · exact hf t q
      · rw [List.mem_singleton.mp q]; exact hr
  | c :: l, f, r, hl, hf, hr => by
    have hl' : low l := fun x hx => hl x (List.mem_cons_of_mem _ hx)
    have hc : c < 128 := hl c (List.mem_cons_self ..)
    have hs : lows (shut f r) := by
      unfold shut
      split
      · exact hf
      · intro t ht
        rcases List.mem_append.mp ht with q | q
        · exact hf t q
        · rw [List.mem_singleton.mp q]; exact hr
    show lows (if bl c || mk c then _ else _)
    split
    · refine low_tkF hl' ?_ low_nil
      split
      · intro t ht
        rcases List.mem_append.mp ht with q | q
        · exact hs t q
        · rw [List.mem_singleton.mp q]; exact low_one hc
      · exact hs
    · exact low_tkF hl' hf (low_app hr (low_one hc))
theorem low_tokens {l : List Nat} (h : low l) : lows (tokens l) := low_tkF h (fun t ht => by cases ht) low_nil
section
variable {cs : List Cell} {tb : TE} {E : XK} {l : List Nat} {k : Nat} {u : CU}
theorem ev_newC (hl : l.length ≤ 20000) (lo : low l) (hb : Ev tb cs (Is (cD K (strD l)))) : Ev (tMake a.Cursor (sp_Cursor___init__ K a) [] E (tCons tb tNil)) cs (fun c => ∃ p, c = (CU.mk p (tokens l) 0).c K a.Cursor) :=
  ev_make (I := {x : Addr × List Nat // x.2.length ≤ 20000 ∧ low x.2}) (fun p => ⟨(p, l), hl, lo⟩) (fun p => rfl) (ea_cons hb ea_nil) fun p cs' c' ⟨e1, e2⟩ => ⟨e1, _, cIns_pin, e2, p, rfl⟩
theorem ev_end (hk : cs[k]? = some (u.c K a.Cursor)) (hu : u.ts.length ≤ u.n) : Ev (tMeth a.Cursor "end" (sp_Cursor_end K a) [] E (tVar k) tNil) cs (Is (cN K)) := ev_methK (I := {u : CU // u.ts.length ≤ u.n}) ⟨u, hu⟩ k hk (by decide +kernel) rfl (C_at hk) ea_nil fun cs' c' po => ⟨po.2, po.1⟩
end
/-- what a text reads as -/
def Reads_ (l : List Nat) (row : List Int) : Prop := l.length ≤ 20000 ∧ low l ∧ SumN 20 (tokens l) 0 row (tokens l).length
theorem sc_read_formula : FnScope ["text", "cursor", "found"] ["text"] (defScope (topS 38)) := ⟨rfl, rfl, rfl, by decide +kernel, rfl, by decide +kernel, by decide +kernel⟩
theorem ok_read_formula (T : Txt K mg a d) : FnOk P w K mg base CX0 96 a.read_formula d.read_formula ["text"] (spP K (fun i : List Nat × List Int => Reads_ i.1 i.2) (fun i => [strD i.1]) (fun i => tI i.2)) := by
  refine T.F_read_formula.ok sc_read_formula (fun vs H Q E h => spD_len (n := 1) (fun _ => rfl) h) (fun cdv A outer s H vs Q E hr h => ?_)
  obtain ⟨i, B0, F0, rt, go⟩ := enterD (N := ["text", "cursor", "found"]) h
  refine ⟨_, (pss_cons (ps_set (i := 1) sc_read_formula.nd rfl (Or.inl rfl) (pe_make T.M_Cursor (ok_Cursor___init__ T) (hr.mono (by decide)) (by rfl) T.m_Cursor T.b_Cursor___init__ .nil pass0 (pa_cons (pv 0) pa_nil)))
    (pss_cons (ps_set (i := 2) sc_read_formula.nd rfl (Or.inl rfl) (pe_call (ok_read_sum0 T) (hr.mono (by decide)) rfl T.m_read_sum T.F_read_sum.kp T.b_read_sum .nil pass0 (pa_cons (pv 1) (pa_cons pe_int pa_nil))))
    (pss_cons (ps_expr (pe_meth0 (pv 1) T.cl_Cursor T.me_Cursor_end (ok_Cursor_end T) (hr.mono (by decide)) T.b_Cursor_end .nil pass0))
    (pss_one (ps_ret (pv 2)))))), go _ ?_⟩
  obtain ⟨⟨l, row⟩, hl, lo, hS⟩ := i
  refine gs_asg (ev_newC hl lo (ev_var rfl)) fun c r => ?_
  obtain ⟨p, rfl⟩ := r
  refine gs_asgX (ev_read (u := CU.mk p (tokens l) 0) (k := 1) (S := SumN 20) (D := 0) rfl (ev_int (n := 0)) hS (low_tokens lo)) fun c cs' r => ?_
  obtain ⟨rfl, rfl⟩ := r
  refine gs_drop (ev_end (u := CU.mk p (tokens l) (tokens l).length) (k := 1) rfl (Nat.le_refl _)) ?_
  exact go_retI (ev_var rfl) (rt _ (by simp))
abbrev nT (n : Nat) : List Nat := TL.numL n
def powT (many at_ : Nat) : List Nat := if at_ = 0 then nT many else if many = 1 then (if at_ = 1 then [120] else [120, 94] ++ nT at_) else nT many ++ [42] ++ (if at_ = 1 then [120] else [120, 94] ++ nT at_)
theorem nT_low (n : Nat) : low (nT n) := fun c hc => by
  have := TL.numL_digits n c hc
  omega
theorem nT_len {n : Nat} (h : n < 2 ^ 300) : (nT n).length ≤ 100 := TL.numL_len (by decide) (Nat.lt_of_lt_of_le h (by decide +kernel))
section
variable {cs : List Cell} {te ta tb : TE} {n : Nat} {x y : List Nat}
theorem ev_strN (h : Ev te cs (Is (cI K (n : Nat)))) (hz : n < 2 ^ 300) : Ev (tCB (fun xs H Q => ∃ i, xs = [.int i] ∧ i.natAbs.log2 < 1920 ∧ Q (.str (toString i)) H) (tCons te tNil)) cs (Is (cD K (strD (nT n)))) := (ev_strI h (by
  rw [Int.natAbs_natCast]
  by_cases e : n = 0
  · rw [e]; decide
  · exact Nat.lt_of_lt_of_le ((Nat.log2_lt e).mpr hz) (by decide))).eq (congrArg PyData.str (SX.num_S n))
theorem ev_addT (ha : Ev ta cs (Is (cD K (strD x)))) (hb : Ev tb cs (Is (cD K (strD y)))) (hz : x.length + y.length ≤ 100000) : Ev (tOp (fun x y H Q => ∃ i j, x = .str i ∧ y = .str j ∧ i.length + j.length ≤ sizeLine ∧ Q (.str (i ++ j)) H) ta tb) cs (Is (cD K (strD (x ++ y)))) := (ev_addS ha hb (by rw [SX.S_len, SX.S_len]; exact hz)).eq (congrArg PyData.str (S_app x y))
end
theorem sc_power_text : FnScope ["many", "at", "power"] ["many", "at"] (defScope (topS 17)) := ⟨rfl, rfl, rfl, by decide +kernel, rfl, by decide +kernel, by decide +kernel⟩
theorem ok_power_text (T : Txt K mg a d) : FnOk P w K mg base CX0 1 a.power_text d.power_text ["many", "at"] (spP K (fun i : Nat × Nat => i.1 < 2 ^ 300 ∧ i.2 ≤ 100) (fun i => [.int (i.1 : Nat), .int (i.2 : Nat)]) (fun i => strD (powT i.1 i.2))) := by
  refine T.F_power_text.ok sc_power_text (fun vs H Q E h => spD_len (n := 2) (fun _ => rfl) h) (fun cdv A outer s H vs Q E hr h => ?_)
  obtain ⟨i, B0, F0, rt, go⟩ := enterD (N := ["many", "at", "power"]) h
  refine ⟨_, (pss_cons (ps_if (pt_cmpR (op_eqD hr.units) (pv 1) pe_int (nomark _))
      (pss_one (ps_ret (pe_callTy call_str_int (by rfl) T.n_str (by decide +kernel) (pa_cons (pv 0) pa_nil))))
      pss_nil)
    (pss_cons (ps_set (i := 2) sc_power_text.nd rfl (Or.inl rfl) (pe_ifExp (pt_cmpR (op_eqD hr.units) (pv 1) pe_int (nomark _)) pe_str (pe_op op_add_str pe_str (pe_callTy call_str_int (by rfl) T.n_str (by decide +kernel) (pa_cons (pv 1) pa_nil)))))
    (pss_one (ps_ret (pe_ifExp (pt_cmpR (op_eqD hr.units) (pv 0) pe_int (nomark _)) (pv 2) (pe_op op_add_str (pe_op op_add_str (pe_callTy call_str_int (by rfl) T.n_str (by decide +kernel) (pa_cons (pv 0) pa_nil)) pe_str) (pv 2))))))), go _ ?_⟩
  obtain ⟨⟨m, e⟩, hm, he⟩ := i
  have hm : m < 2 ^ 300 := hm
  have he : e ≤ 100 := he
  have he2 : e < 2 ^ 300 := Nat.lt_of_le_of_lt he (by decide +kernel)
  have lm := nT_len hm
  have le := nT_len he2
  refine gs_ifE (b := decide (e = 0)) (et_is (et_test (ev_eqI (ev_var (d := .int (e : Nat)) rfl) (ev_int (n := 0)))) (by simp)) (fun h => ?_) (fun h => ?_)
  · have h := of_decide_eq_true h
    refine go_retI (ev_strN (n := m) (ev_var rfl) hm) (rt_eq (d := strD (powT m e)) (rt _ (by simp)) ?_)
    unfold powT
    rw [if_pos h]
  · have h := of_decide_eq_false h
    refine gs_set (c := cD K (strD (if e = 1 then [120] else [120, 94] ++ nT e))) (ev_if (b := decide (e = 1)) (et_is (et_test (ev_eqI (ev_var (d := .int (e : Nat)) rfl) (ev_int (n := 1)))) (by
      by_cases q : e = 1
      · subst q; rfl
      · rw [decide_eq_false q]
        exact decide_eq_false (by omega))) (fun h1 => ?_) (fun h1 => ?_)) ?_
    · rw [if_pos (of_decide_eq_true h1)]
      exact ev_litT (by decide +kernel)
    · rw [if_neg (of_decide_eq_false h1)]
      exact ev_addT (x := [120, 94]) (ev_litT (by decide +kernel)) (ev_strN (n := e) (ev_var rfl) he2) (by simp; omega)
    · refine go_retI (c := cD K (strD (powT m e))) (ev_if (b := decide (m = 1)) (et_is (et_test (ev_eqI (ev_var (d := .int (m : Nat)) rfl) (ev_int (n := 1)))) (by
        by_cases q : m = 1
        · subst q; rfl
        · rw [decide_eq_false q]
          exact decide_eq_false (by omega))) (fun h1 => ?_) (fun h1 => ?_)) (rt _ (by simp))
      · refine (ev_var (d := strD (if e = 1 then [120] else [120, 94] ++ nT e)) rfl).eq ?_
        unfold powT
        rw [if_neg h, if_pos (of_decide_eq_true h1)]
      · refine (ev_addT (x := nT m ++ [42]) (y := if e = 1 then [120] else [120, 94] ++ nT e) (ev_addT (x := nT m) (y := [42]) (ev_strN (n := m) (ev_var rfl) hm) (ev_litT (by decide +kernel)) (by simp; omega)) (ev_var rfl) ?_).eq ?_
        · have : (if e = 1 then [120] else [120, 94] ++ nT e).length ≤ 102 := by
            split
            · simp
            · simp; omega
          simp at this ⊢
          omega
        · unfold powT
          rw [if_neg h, if_neg (of_decide_eq_false h1)]
end
end Y
namespace Y
open PySem L2 Z M StX
section
variable {P : Program} {w : World} {K : PySem.W.Frag} {mg : Str → Option Value} {base : Heap} {a : Ad} {d : Fd}
/-- the text of a row, its top i places -/
def fG (l : List Int) : Nat → List Nat
  | 0 => []
  | i + 1 => if cf l (l.length - 1 - i) = 0 then fG l i else if fG l i = [] then (if cf l (l.length - 1 - i) < 0 then [45] else []) ++ powT (cf l (l.length - 1 - i)).natAbs (l.length - 1 - i)
    else fG l i ++ ([32] ++ (if cf l (l.length - 1 - i) < 0 then [45] else [43]) ++ [32] ++ powT (cf l (l.length - 1 - i)).natAbs (l.length - 1 - i))
def formT (l : List Int) : List Nat := if trimI l = [] then [48] else fG (trimI l) (trimI l).length
theorem powT_len {m e : Nat} (hm : m < 2 ^ 300) (he : e ≤ 100) : (powT m e).length ≤ 210 := by
  have lm := nT_len hm
  have le := nT_len (n := e) (Nat.lt_of_le_of_lt he (by decide +kernel))
  unfold powT
  split
  · omega
  · split
    · split <;> simp <;> omega
    · split <;> simp <;> omega
theorem fG_len {l : List Int} (hl : l.length ≤ 61) (hb : Bd 300 l) : ∀ i, (fG l i).length ≤ 220 * i
  | 0 => Nat.le_refl _
  | i + 1 => by
    have ih := fG_len hl hb i
    have lp := powT_len (m := (cf l (l.length - 1 - i)).natAbs) (e := l.length - 1 - i) (bd_cf hb _) (by omega)
    show (if _ then _ else _ : List Nat).length ≤ _
    split
    · omega
    · split
      · split <;> simp <;> omega
      · split <;> simp <;> omega
theorem powT_low (m e : Nat) : low (powT m e) := by
  have x1 : low [120] := low_one (by decide)
  have x2 : low ([120, 94] ++ nT e) := low_app (fun c hc => by
    simp at hc
    omega) (nT_low e)
  unfold powT
  split
  · exact nT_low m
  · split
    · split
      · exact x1
      · exact x2
    · refine low_app (low_app (nT_low m) (low_one (by decide))) ?_
      split
      · exact x1
      · exact x2
theorem fG_low (l : List Int) : ∀ i, low (fG l i)
  | 0 => low_nil
  | i + 1 => by
    have ih := fG_low l i
    have lp := powT_low (cf l (l.length - 1 - i)).natAbs (l.length - 1 - i)
    show low (if _ then _ else _)
    split
    · exact ih
    · split
      · refine low_app ?_ lp
        split
        · exact low_one (by decide)
        · exact low_nil
      · refine low_app ih (low_app (low_app (low_app (low_one (by decide)) ?_) (low_one (by decide))) lp)
        split <;> exact low_one (by decide)
theorem sc_formula_text : FnScope ["formula", "left", "found", "at", "sign"] ["formula"] (defScope (topS 18)) := ⟨rfl, rfl, rfl, by decide +kernel, rfl, by decide +kernel, by decide +kernel⟩
theorem ok_formula_text (T : Txt K mg a d) : FnOk P w K mg base CX0 4 a.formula_text d.formula_text ["formula"] (spP K (fun l : List Int => l.length ≤ 61 ∧ Bd 300 l) (fun l => [tI l]) (fun l => strD (formT l))) := by
  refine T.F_formula_text.ok sc_formula_text (fun vs H Q E h => spD_len (n := 1) (fun _ => rfl) h) (fun cdv A outer s H vs Q E hr h => ?_)
  obtain ⟨i, B0, F0, rt, go⟩ := enterD (N := ["formula", "left", "found", "at", "sign"]) h
  refine ⟨_, (pss_cons (ps_expr (pe_callRS (ok_checked_formulas T) (hr.mono (by decide)) rfl T.m_checked_formulas T.F_checked_formulas.kp pass0 (pa_cons (pv 0) pa_nil)))
    (pss_cons (ps_set (i := 1) sc_formula_text.nd rfl (Or.inl rfl) (pe_call (ok_trimmedT T) (hr.mono (by decide)) rfl T.m_trimmed T.F_trimmed.kp T.b_trimmed .nil pass0 (pa_cons (pv 0) pa_nil)))
    (pss_cons (ps_if (pt_cmpR (op_eqD hr.units) (pv 1) (pe_tup pa_nil) (nomark _))
      (pss_one (ps_ret pe_str))
      pss_nil)
    (pss_cons (ps_set (i := 2) sc_formula_text.nd rfl (Or.inl rfl) pe_str)
    (pss_cons (ps_for PassesOwn.never rfl (pi_range3 (by rfl) T.n_range (pa_cons (pe_op op_sub (pe_callB call_len_seq (by rfl) T.n_len PySem.boot_len (pa_cons (pv 1) pa_nil)) pe_int) (pa_cons (pe_un un_neg pe_int) (pa_cons (pe_un un_neg pe_int) pa_nil)))) (pg_name (i := 3) sc_formula_text.nd rfl (Or.inl rfl))
      (pss_one (ps_if (pt_cmpR (op_neD hr.units) (pe_ix ix_tup (pv 1) (pv 3) (fun _ _ => rfl)) pe_int (nomark _))
        (pss_cons (ps_set (i := 4) sc_formula_text.nd rfl (Or.inl rfl) (pe_ifExp (pt_cmpR op_lt (pe_ix ix_tup (pv 1) (pv 3) (fun _ _ => rfl)) pe_int (nomark _)) pe_str pe_str))
        (pss_one (ps_if (pt_cmpR (op_eqD hr.units) (pv 2) pe_str (nomark _))
          (pss_one (ps_set (i := 2) sc_formula_text.nd rfl (Or.inl rfl) (pe_op op_add_str (pe_ifExp (pt_cmpR op_lt (pe_ix ix_tup (pv 1) (pv 3) (fun _ _ => rfl)) pe_int (nomark _)) pe_str pe_str) (pe_call (ok_power_text T) (hr.mono (by decide)) rfl T.m_power_text T.F_power_text.kp T.b_power_text .nil pass0 (pa_cons (pe_callB call_abs (by rfl) T.n_abs (by decide +kernel) (pa_cons (pe_ix ix_tup (pv 1) (pv 3) (fun _ _ => rfl)) pa_nil)) (pa_cons (pv 3) pa_nil))))))
          (pss_one (ps_aug (i := 2) sc_formula_text.nd rfl (Or.inl rfl) (pe_op op_add_str (pe_op op_add_str (pe_op op_add_str pe_str (pv 4)) pe_str) (pe_call (ok_power_text T) (hr.mono (by decide)) rfl T.m_power_text T.F_power_text.kp T.b_power_text .nil pass0 (pa_cons (pe_callB call_abs (by rfl) T.n_abs (by decide +kernel) (pa_cons (pe_ix ix_tup (pv 1) (pv 3) (fun _ _ => rfl)) pa_nil)) (pa_cons (pv 3) pa_nil)))) (ip_ofR iop_add_str))))))
        pss_nil)))
    (pss_one (ps_ret (pv 2)))))))), go _ ?_⟩
  obtain ⟨l, hl, hb⟩ := i
  have hl : l.length ≤ 61 := hl
  refine gs_drop (ev_call ⟨[tI l], forms1 hl⟩ (ea_cons (ev_var rfl) ea_nil)) ?_
  refine gs_set (ev_call l (ea_cons (ev_var rfl) ea_nil)) ?_
  have ef : formT l = if trimI l = [] then [48] else fG (trimI l) (trimI l).length := rfl
  have lt : (trimI l).length ≤ 61 := Nat.le_trans (trim_len l) hl
  have bt : Bd 300 (trimI l) := hb.trim
  generalize trimI l = t at ef lt bt
  refine gs_ifE (et_test (ev_eqNil (l := t) (ev_rdD rfl) (ev_tup (ds := []) ea_nil (by decide)))) (fun h => ?_) (fun h => ?_)
  · refine go_retI (ev_litT (K := K) (x := [48]) (by decide +kernel)) (rt_eq (d := strD (formT l)) (rt _ (by simp)) ?_)
    rw [ef, if_pos (of_decide_eq_true h)]
  · have h := of_decide_eq_false h
    refine gs_set (ev_litT (K := K) (x := []) (by decide +kernel)) ?_
    refine gs_for (js := [3]) (ei_rngD (a := (t.length : Int) - 1) (b := -1) ((ev_int20 (ev_lenT (ds := t.map .int) (ev_var rfl)) (ev_int (n := 1))).il (by rw [List.length_map])) ((ev_neg (K := K) (ev_int (n := 1))).il (m := -1) rfl) ((ev_neg (K := K) (ev_int (n := 1))).il (m := -1) rfl) (by omega)) (fun i cs' => ∃ c3 c4, cs' = [cD K (tI l), cD K (tI t), cD K (strD (fG t i)), c3, c4]) ⟨cNo, cNo, rfl⟩ ?_ ?_
    · rintro B1 sB i c cs' hi rfl ⟨c3, c4, rfl⟩
      have hi' : i < t.length := by omega
      have gl := fG_len lt bt i
      have go_ := fG_low t i
      have gs : fG t (i + 1) = if cf t (t.length - 1 - i) = 0 then fG t i else if fG t i = [] then (if cf t (t.length - 1 - i) < 0 then [45] else []) ++ powT (cf t (t.length - 1 - i)).natAbs (t.length - 1 - i) else fG t i ++ ([32] ++ (if cf t (t.length - 1 - i) < 0 then [45] else [43]) ++ [32] ++ powT (cf t (t.length - 1 - i)).natAbs (t.length - 1 - i)) := rfl
      have pe : ((t.length : Int) - 1 - i) = ((t.length - 1 - i : Nat) : Int) := by omega
      have pl := powT_len (m := (cf t (t.length - 1 - i)).natAbs) (e := t.length - 1 - i) (bd_cf bt _) (by omega)
      have hat := cf_of_lt (l := t) (k := t.length - 1 - i) (by omega)
      have hpos : t.length - 1 - i ≤ 100 := by omega
      generalize t.length - 1 - i = e at gs pe pl hat hpos
      have hm : (cf t e).natAbs < 2 ^ 300 := bd_cf bt e
      generalize cf t e = z at gs pl hat hm
      rw [pe]
      have ix : ∀ {c2 c4 : Cell}, Ev (tOp (rIxT K) (tVar 1) (tVar 3)) [cD K (tI l), cD K (tI t), c2, cI K (e : Nat), c4] (Is (cI K z)) := fun {c2 c4} => ev_ixT (ds := t.map .int) (ev_var rfl) (ev_var rfl) (atI_int hat)
      have pw : ∀ {c2 c4 : Cell} {E : XK}, Ev (tCall (spP K (fun i : Nat × Nat => i.1 < 2 ^ 300 ∧ i.2 ≤ 100) (fun i => [.int (i.1 : Nat), .int (i.2 : Nat)]) (fun i => strD (powT i.1 i.2))) [] E (tCons (tCB (fun xs H Q => ∃ i, xs = [.int i] ∧ Q (.int (if i < 0 then -i else i)) H) (tCons (tOp (rIxT K) (tVar 1) (tVar 3)) tNil)) (tCons (tVar 3) tNil))) [cD K (tI l), cD K (tI t), c2, cI K (e : Nat), c4] (Is (cD K (strD (powT z.natAbs e)))) := fun {c2 c4 E} => ev_callP (z.natAbs, e) ⟨hm, hpos⟩ (ea_cons (ev_abs ix) (ea_cons (ev_var rfl) ea_nil))
      refine ⟨_, tg_name, go_if (et_test (ev_neI ix (ev_int (n := 0)))) (fun hz => ?_) (fun hz => ?_)⟩
      · have hz : z ≠ 0 := by simpa using hz
        rw [if_neg hz] at gs
        refine gs_set (c := cD K (strD (if z < 0 then [45] else [43]))) (ev_if (b := decide (z < 0)) (et_test (ev_cmp2 ix (ev_int (n := 0)))) (fun h1 => ?_) (fun h1 => ?_)) ?_
        · rw [if_pos (of_decide_eq_true h1)]
          exact ev_litT (by decide +kernel)
        · rw [if_neg (of_decide_eq_false h1)]
          exact ev_litT (by decide +kernel)
        · refine go_if (et_test (ev_eqT (x := fG t i) (y := []) (ev_var rfl) (ev_litT (by decide +kernel)) go_ low_nil)) (fun h2 => ?_) (fun h2 => ?_)
          · have h2 := of_decide_eq_true h2
            rw [if_pos h2] at gs
            refine go_set (c := cD K (strD (fG t (i + 1)))) ?_ (go_mid ⟨cI K (e : Nat), _, rfl⟩)
            rw [gs]
            refine ev_addT (ev_if (b := decide (z < 0)) (et_test (ev_cmp2 ix (ev_int (n := 0)))) (fun h1 => ?_) (fun h1 => ?_)) pw ?_
            · exact (ev_litT (K := K) (x := [45]) (by decide +kernel)).eq (by rw [if_pos (of_decide_eq_true h1)])
            · exact (ev_litT (K := K) (x := []) (by decide +kernel)).eq (by rw [if_neg (of_decide_eq_false h1)])
            · split <;> simp <;> omega
          · have h2 := of_decide_eq_false h2
            rw [if_neg h2] at gs
            have ls : (if z < 0 then [45] else [43] : List Nat).length = 1 := by split <;> rfl
            refine go_augS (i := 2) (x := SX.S (fG t i)) (y := SX.S ([32] ++ (if z < 0 then [45] else [43]) ++ [32] ++ powT z.natAbs e)) rfl (ev_addT (ev_addT (ev_addT (ev_litT (x := [32]) (by decide +kernel)) (ev_var rfl) (by rw [ls]; decide)) (ev_litT (x := [32]) (by decide +kernel)) (by rw [List.length_append, ls]; decide)) pw (by rw [List.length_append, List.length_append, ls]; simp; omega)) (by rw [SX.S_len, SX.S_len, List.length_append, List.length_append, List.length_append, ls]; simp; omega) (go_mid ⟨cI K (e : Nat), cD K (strD (if z < 0 then [45] else [43])), ?_⟩)
            rw [S_app, ← gs]
            rfl
      · have hz : z = 0 := by simpa using hz
        rw [if_pos hz] at gs
        refine go_nx (go_mid ⟨cI K (e : Nat), c4, ?_⟩)
        rw [gs]
        rfl
    · rintro cs' ⟨c3, c4, rfl⟩
      have e : ((t.length : Int) - 1 - -1).toNat = t.length := by omega
      rw [e]
      refine go_retI (ev_var rfl) (rt_eq (d := strD (formT l)) (rt _ (by simp)) ?_)
      rw [ef, if_neg h]
end
end Y
namespace Y
open PySem L2 Z M StX
section
variable {P : Program} {w : World} {K : PySem.W.Frag} {mg : Str → Option Value} {base : Heap} {a : Ad} {d : Fd}
def pwT (e : Nat) : List Nat := if e = 0 then [] else if e = 1 then [120] else [120, 94] ++ nT e
theorem powT_is (m e : Nat) : powT m e = if e = 0 then nT m else if m = 1 then pwT e else nT m ++ [42] ++ pwT e := by
  unfold powT pwT
  by_cases h : e = 0
  · rw [if_pos h, if_pos h]
  · rw [if_neg h, if_neg h, if_neg h]
theorem sc__law_plain_text : FnScope ["row", "found", "at", "many", "power", "part"] ["row"] (defScope (topS 56)) := ⟨rfl, rfl, rfl, by decide +kernel, rfl, by decide +kernel, by decide +kernel⟩
theorem ok__law_plain_text (T : Txt K mg a d) : FnOk P w K mg base CX0 1 a._law_plain_text d._law_plain_text ["row"] (spP K (fun l : List Int => l.length ≤ 61 ∧ Bd 300 l) (fun l => [tI l]) (fun l => strD (if fG l l.length = [] then [48] else fG l l.length))) := by
  refine T.F__law_plain_text.ok sc__law_plain_text (fun vs H Q E h => spD_len (n := 1) (fun _ => rfl) h) (fun cdv A outer s H vs Q E hr h => ?_)
  obtain ⟨i, B0, F0, rt, go⟩ := enterD (N := ["row", "found", "at", "many", "power", "part"]) h
  refine ⟨_, (pss_cons (ps_set (i := 1) sc__law_plain_text.nd rfl (Or.inl rfl) pe_str)
    (pss_cons (ps_for PassesOwn.never rfl (pi_range3 (by rfl) T.n_range (pa_cons (pe_op op_sub (pe_callB call_len_seq (by rfl) T.n_len PySem.boot_len (pa_cons (pv 0) pa_nil)) pe_int) (pa_cons (pe_un un_neg pe_int) (pa_cons (pe_un un_neg pe_int) pa_nil)))) (pg_name (i := 2) sc__law_plain_text.nd rfl (Or.inl rfl))
      (pss_cons (ps_set (i := 3) sc__law_plain_text.nd rfl (Or.inl rfl) (pe_callB call_abs (by rfl) T.n_abs (by decide +kernel) (pa_cons (pe_ix ix_tup (pv 0) (pv 2) (fun _ _ => rfl)) pa_nil)))
      (pss_cons (ps_set (i := 4) sc__law_plain_text.nd rfl (Or.inl rfl) (pe_ifExp (pt_cmpR (op_eqD hr.units) (pv 2) pe_int (nomark _)) pe_str (pe_ifExp (pt_cmpR (op_eqD hr.units) (pv 2) pe_int (nomark _)) pe_str (pe_op op_add_str pe_str (pe_callTy call_str_int (by rfl) T.n_str (by decide +kernel) (pa_cons (pv 2) pa_nil))))))
      (pss_cons (ps_set (i := 5) sc__law_plain_text.nd rfl (Or.inl rfl) (pe_ifExp (pt_cmpR (op_eqD hr.units) (pv 2) pe_int (nomark _)) (pe_callTy call_str_int (by rfl) T.n_str (by decide +kernel) (pa_cons (pv 3) pa_nil)) (pe_ifExp (pt_cmpR (op_eqD hr.units) (pv 3) pe_int (nomark _)) (pv 4) (pe_op op_add_str (pe_op op_add_str (pe_callTy call_str_int (by rfl) T.n_str (by decide +kernel) (pa_cons (pv 3) pa_nil)) pe_str) (pv 4)))))
      (pss_one (ps_if (pt_cmpR (op_neD hr.units) (pv 3) pe_int (nomark _))
        (pss_one (ps_set (i := 1) sc__law_plain_text.nd rfl (Or.inl rfl) (pe_op op_add_str (pe_op op_add_str (pv 1) (pe_ifExp (PW.pt (pw_and (pt_cmpR op_lt (pe_ix ix_tup (pv 0) (pv 2) (fun _ _ => rfl)) pe_int (nomark _)) (pw_and1 (pt_cmpR (op_neD hr.units) (pv 1) pe_str (nomark _))))) pe_str (pe_ifExp (pt_cmpR op_lt (pe_ix ix_tup (pv 0) (pv 2) (fun _ _ => rfl)) pe_int (nomark _)) pe_str (pe_ifExp (pt_cmpR (op_neD hr.units) (pv 1) pe_str (nomark _)) pe_str pe_str)))) (pv 5))))
        pss_nil))))))
    (pss_one (ps_ret (pe_ifExp (pt_cmpR (op_neD hr.units) (pv 1) pe_str (nomark _)) (pv 1) pe_str))))), go _ ?_⟩
  obtain ⟨t, lt, bt⟩ := i
  have lt : t.length ≤ 61 := lt
  refine gs_set (ev_litT (K := K) (x := []) (by decide +kernel)) ?_
  refine gs_for (js := [2]) (ei_rngD (a := (t.length : Int) - 1) (b := -1) ((ev_int20 (ev_lenT (ds := t.map .int) (ev_var rfl)) (ev_int (n := 1))).il (by rw [List.length_map])) ((ev_neg (K := K) (ev_int (n := 1))).il (m := -1) rfl) ((ev_neg (K := K) (ev_int (n := 1))).il (m := -1) rfl) (by omega)) (fun i cs' => ∃ c2 c3 c4 c5, cs' = [cD K (tI t), cD K (strD (fG t i)), c2, c3, c4, c5]) ⟨cNo, cNo, cNo, cNo, rfl⟩ ?_ ?_
  · rintro B1 sB i c cs' hi rfl ⟨c2, c3, c4, c5, rfl⟩
    have hi' : i < t.length := by omega
    have gl := fG_len lt bt i
    have go_ := fG_low t i
    have gs : fG t (i + 1) = if cf t (t.length - 1 - i) = 0 then fG t i else if fG t i = [] then (if cf t (t.length - 1 - i) < 0 then [45] else []) ++ powT (cf t (t.length - 1 - i)).natAbs (t.length - 1 - i) else fG t i ++ ([32] ++ (if cf t (t.length - 1 - i) < 0 then [45] else [43]) ++ [32] ++ powT (cf t (t.length - 1 - i)).natAbs (t.length - 1 - i)) := rfl
    have pe : ((t.length : Int) - 1 - i) = ((t.length - 1 - i : Nat) : Int) := by omega
    have pl := powT_len (m := (cf t (t.length - 1 - i)).natAbs) (e := t.length - 1 - i) (bd_cf bt _) (by omega)
    have hat := cf_of_lt (l := t) (k := t.length - 1 - i) (by omega)
    have hpos : t.length - 1 - i ≤ 100 := by omega
    generalize t.length - 1 - i = e at gs pe pl hat hpos
    have hm : (cf t e).natAbs < 2 ^ 300 := bd_cf bt e
    generalize cf t e = z at gs pl hat hm
    rw [pe]
    have he2 : e < 2 ^ 300 := Nat.lt_of_le_of_lt hpos (by decide +kernel)
    have lm := nT_len hm
    have le := nT_len he2
    have lpw : (pwT e).length ≤ 102 := by
      unfold pwT
      split
      · simp
      · split <;> simp <;> omega
    have ix : ∀ {c1 c3 c4 c5 : Cell}, Ev (tOp (rIxT K) (tVar 0) (tVar 2)) [cD K (tI t), c1, cI K (e : Nat), c3, c4, c5] (Is (cI K z)) := fun {c1 c3 c4 c5} => ev_ixT (ds := t.map .int) (ev_var rfl) (ev_var rfl) (atI_int hat)
    have eqN : ∀ {cs : List Cell} {j n k : Nat}, cs[j]? = some (cI K (n : Nat)) → EvT (tTest (tOp (rEqD K) (tVar j) (tC (.int (k : Nat))))) cs (fun b => b = decide (n = k)) := fun {cs j n k} h => et_is (et_test (ev_eqI (ev_var h) (ev_int (n := (k : Nat))))) (by
      by_cases q : n = k
      · rw [q]; simp
      · rw [decide_eq_false q]
        exact decide_eq_false (by omega))
    refine ⟨_, tg_name, gs_set (ev_abs ix) ?_⟩
    refine gs_set (c := cD K (strD (pwT e))) (ev_if (b := decide (e = 0)) (eqN (k := 0) rfl) (fun h1 => ?_) (fun h1 => ev_if (b := decide (e = 1)) (eqN (k := 1) rfl) (fun h2 => ?_) (fun h2 => ?_))) ?_
    · exact (ev_litT (K := K) (x := []) (by decide +kernel)).eq (by unfold pwT; rw [if_pos (of_decide_eq_true h1)])
    · exact (ev_litT (K := K) (x := [120]) (by decide +kernel)).eq (by unfold pwT; rw [if_neg (of_decide_eq_false h1), if_pos (of_decide_eq_true h2)])
    · exact (ev_addT (x := [120, 94]) (ev_litT (by decide +kernel)) (ev_strN (n := e) (ev_var rfl) he2) (by simp; omega)).eq (by unfold pwT; rw [if_neg (of_decide_eq_false h1), if_neg (of_decide_eq_false h2)])
    refine gs_set (c := cD K (strD (powT z.natAbs e))) (ev_if (b := decide (e = 0)) (eqN (k := 0) rfl) (fun h1 => ?_) (fun h1 => ev_if (b := decide (z.natAbs = 1)) (eqN (k := 1) rfl) (fun h2 => ?_) (fun h2 => ?_))) ?_
    · exact (ev_strN (n := z.natAbs) (ev_var rfl) hm).eq (by rw [powT_is, if_pos (of_decide_eq_true h1)])
    · exact (ev_var (d := strD (pwT e)) rfl).eq (by rw [powT_is, if_neg (of_decide_eq_false h1), if_pos (of_decide_eq_true h2)])
    · exact (ev_addT (x := nT z.natAbs ++ [42]) (y := pwT e) (ev_addT (x := nT z.natAbs) (y := [42]) (ev_strN (n := z.natAbs) (ev_var rfl) hm) (ev_litT (by decide +kernel)) (by simp; omega)) (ev_var rfl) (by simp; omega)).eq (by rw [powT_is, if_neg (of_decide_eq_false h1), if_neg (of_decide_eq_false h2)])
    refine go_if (b := !decide (z = 0)) (et_is (et_test (ev_neI (ev_var (d := .int (z.natAbs : Nat)) rfl) (ev_int (n := 0)))) (by
      by_cases q : z = 0
      · rw [q]; rfl
      · rw [decide_eq_false q, decide_eq_false (by omega)])) (fun hz => ?_) (fun hz => ?_)
    · have hz : z ≠ 0 := by simpa using hz
      rw [if_neg hz] at gs
      have ne : ∀ {c2 c3 c4 c5 : Cell}, EvT (tTest (tOp (rNeD K) (tVar 1) (tC (.str "")))) [cD K (tI t), cD K (strD (fG t i)), c2, c3, c4, c5] (fun b => b = !decide (fG t i = [])) := fun {c2 c3 c4 c5} => et_test (ev_neT (ev_var rfl) (ev_litT (by decide +kernel)) go_ low_nil)
      have lz : ∀ {c1 c3 c4 c5 : Cell}, EvT (tTest (tOp (rI0 fun i j => .bl (decide (i < j))) (tOp (rIxT K) (tVar 0) (tVar 2)) (tC (.int 0)))) [cD K (tI t), c1, cI K (e : Nat), c3, c4, c5] (fun b => b = decide (z < 0)) := fun {c1 c3 c4 c5} => et_test (ev_cmp2 ix (ev_int (n := 0)))
      refine go_set (c := cD K (strD (fG t (i + 1)))) ?_ (go_mid ⟨_, _, _, _, rfl⟩)
      rw [gs]
      have mid : ∀ X : List Nat, X.length ≤ 3 → (if fG t i = [] then (if z < 0 then [45] else []) ++ powT z.natAbs e else fG t i ++ ([32] ++ (if z < 0 then [45] else [43]) ++ [32] ++ powT z.natAbs e)) = fG t i ++ X ++ powT z.natAbs e → ∀ {te : TE}, Ev te [cD K (tI t), cD K (strD (fG t i)), cI K (e : Nat), cI K (z.natAbs : Nat), cD K (strD (pwT e)), cD K (strD (powT z.natAbs e))] (Is (cD K (strD X))) →
          Ev (tOp (fun x y H Q => ∃ i j, x = .str i ∧ y = .str j ∧ i.length + j.length ≤ sizeLine ∧ Q (.str (i ++ j)) H) (tOp (fun x y H Q => ∃ i j, x = .str i ∧ y = .str j ∧ i.length + j.length ≤ sizeLine ∧ Q (.str (i ++ j)) H) (tVar 1) te) (tVar 5)) [cD K (tI t), cD K (strD (fG t i)), cI K (e : Nat), cI K (z.natAbs : Nat), cD K (strD (pwT e)), cD K (strD (powT z.natAbs e))] (Is (cD K (strD (if fG t i = [] then (if z < 0 then [45] else []) ++ powT z.natAbs e else fG t i ++ ([32] ++ (if z < 0 then [45] else [43]) ++ [32] ++ powT z.natAbs e))))) := fun X lX eX te hX => by
        rw [eX]
        exact ev_addT (ev_addT (ev_var rfl) hX (by omega)) (ev_var rfl) (by rw [List.length_append]; omega)
      by_cases q1 : z < 0
      · by_cases q2 : fG t i = []
        · refine mid [45] (by decide) (by rw [if_pos q2, if_pos q1, q2]; rfl) (ev_if (b := false) (et_is (et_and (a := true) (b := false) (et_is lz (decide_eq_true q1)) fun _ => et_is ne (by rw [decide_eq_true q2]; rfl)) rfl) (fun h => nomatch h) fun _ => ev_if (b := true) (et_is lz (decide_eq_true q1)) (fun _ => ev_litT (by decide +kernel)) fun h => nomatch h)
        · refine mid [32, 45, 32] (by decide) (by rw [if_neg q2, if_pos q1]; simp) (ev_if (b := true) (et_is (et_and (a := true) (b := true) (et_is lz (decide_eq_true q1)) fun _ => et_is ne (by rw [decide_eq_false q2]; rfl)) rfl) (fun _ => ev_litT (by decide +kernel)) fun h => nomatch h)
      · by_cases q2 : fG t i = []
        · refine mid [] (by decide) (by rw [if_pos q2, if_neg q1, q2]; rfl) (ev_if (b := false) (et_is (et_and (a := false) (b := false) (et_is lz (decide_eq_false q1)) fun h => nomatch h) rfl) (fun h => nomatch h) fun _ => ev_if (b := false) (et_is lz (decide_eq_false q1)) (fun h => nomatch h) fun _ => ev_if (b := false) (et_is ne (by rw [decide_eq_true q2]; rfl)) (fun h => nomatch h) fun _ => ev_litT (by decide +kernel))
        · refine mid [32, 43, 32] (by decide) (by rw [if_neg q2, if_neg q1]; simp) (ev_if (b := false) (et_is (et_and (a := false) (b := false) (et_is lz (decide_eq_false q1)) fun h => nomatch h) rfl) (fun h => nomatch h) fun _ => ev_if (b := false) (et_is lz (decide_eq_false q1)) (fun h => nomatch h) fun _ => ev_if (b := true) (et_is ne (by rw [decide_eq_false q2]; rfl)) (fun _ => ev_litT (by decide +kernel)) fun h => nomatch h)
    · have hz : z = 0 := by simpa using hz
      rw [if_pos hz] at gs
      rw [gs]
      exact go_nx (go_mid ⟨_, _, _, _, rfl⟩)
  · rintro cs' ⟨c2, c3, c4, c5, rfl⟩
    have e : ((t.length : Int) - 1 - -1).toNat = t.length := by omega
    rw [e]
    refine go_retI (c := cD K (strD (if fG t t.length = [] then [48] else fG t t.length))) (ev_if (et_test (ev_neT (x := fG t t.length) (y := []) (ev_var rfl) (ev_litT (by decide +kernel)) (fG_low t _) low_nil)) (fun h => ?_) (fun h => ?_)) (rt _ (by simp))
    · have h : fG t t.length ≠ [] := by simpa using h
      exact (ev_var (d := strD (fG t t.length)) rfl).eq (by rw [if_neg h])
    · have h : fG t t.length = [] := by simpa using h
      exact (ev_litT (K := K) (x := [48]) (by decide +kernel)).eq (by rw [if_pos h])
end
end Y
namespace Y
open PySem L2 Z M StX
section
variable {P : Program} {w : World} {K : PySem.W.Frag} {mg : Str → Option Value} {base : Heap} {a : Ad} {d : Fd}
theorem tkF_end : ∀ (l : List Nat) (f : List (List Nat)) (r : List Nat), tkF (l ++ [32]) f r = tkF l f r
  | [], f, r => by
    show (if bl 32 || mk 32 then tkF [] (if mk 32 then shut f r ++ [[32]] else shut f r) [] else _) = shut f r
    rw [if_pos (by decide), if_neg (by decide)]
    rfl
  | c :: l, f, r => by
    show (if bl c || mk c then tkF (l ++ [32]) _ [] else tkF (l ++ [32]) f (r ++ [c])) = if bl c || mk c then tkF l _ [] else tkF l f (r ++ [c])
    rw [tkF_end l, tkF_end l]
theorem signs_is : ((" \n\t+-*^()" : Str)).cps.toList = [32, 10, 9, 43, 45, 42, 94, 40, 41] := by decide +kernel
theorem blanks2_is : ((" \n\t" : Str)).cps.toList = [32, 10, 9] := by decide +kernel
theorem sign_or (k : Nat) : decide (k ∈ [32, 10, 9, 43, 45, 42, 94, 40, 41]) = (bl k || mk k) := by
  unfold bl mk
  by_cases h1 : k ∈ [32, 9, 10]
  · rw [decide_eq_true h1, Bool.true_or]
    refine decide_eq_true ?_
    simp at h1 ⊢
    omega
  · rw [decide_eq_false h1, Bool.false_or]
    by_cases h2 : k ∈ [43, 45, 42, 94, 40, 41]
    · rw [decide_eq_true h2]
      refine decide_eq_true ?_
      simp at h2 ⊢
      omega
    · rw [decide_eq_false h2]
      refine decide_eq_false ?_
      simp at h1 h2 ⊢
      omega
theorem blank_or (k : Nat) : decide (k ∈ [32, 10, 9]) = bl k := by
  unfold bl
  by_cases h1 : k ∈ [32, 9, 10]
  · rw [decide_eq_true h1]
    refine decide_eq_true ?_
    simp at h1 ⊢
    omega
  · rw [decide_eq_false h1]
    refine decide_eq_false ?_
    simp at h1 ⊢
    omega
theorem mk_of {k : Nat} (h : (bl k || mk k) = true) : (!bl k) = mk k := by
  unfold bl mk at *
  by_cases h1 : k ∈ [32, 9, 10]
  · have h2 : k ∉ [43, 45, 42, 94, 40, 41] := by
      simp at h1 ⊢
      omega
    rw [decide_eq_true h1, decide_eq_false h2]
    rfl
  · rw [decide_eq_false h1, Bool.false_or] at h
    rw [decide_eq_false h1, h]
    rfl
theorem sc__law_tokens : FnScope ["text", "found", "run", "sign"] ["text"] (defScope (topS 51)) := ⟨rfl, rfl, rfl, by decide +kernel, rfl, by decide +kernel, by decide +kernel⟩
theorem ok__law_tokens (T : Txt K mg a d) : FnOk P w K mg base CX0 1 a._law_tokens d._law_tokens ["text"] (spP K (fun l : List Nat => l.length ≤ 20000 ∧ low l) (fun l => [strD l]) (fun l => .list ((tokens l).map strD))) := by
  refine T.F__law_tokens.ok sc__law_tokens (fun vs H Q E h => spD_len (n := 1) (fun _ => rfl) h) (fun cdv A outer s H vs Q E hr h => ?_)
  obtain ⟨i, B0, F0, rt, go⟩ := enterD (N := ["text", "found", "run", "sign"]) h
  refine ⟨_, (pss_cons (ps_par (i := 1) (j := 2) (by rfl) sc__law_tokens.nd rfl rfl (by decide) rfl rfl (pa_cons (pe_lst pa_nil) (pa_cons pe_str pa_nil)) (by rfl))
    (pss_cons (ps_for PassesOwn.never rfl (pi_str (pe_op op_add_str (pv 0) pe_str)) (pg_name (i := 3) sc__law_tokens.nd rfl (Or.inl rfl))
      (pss_one (ps_if (pt_cmpR op_in_sign (pv 3) pe_str (by rfl))
        (Evl.pss_cut (ps_if (pt_cmpR (op_neD hr.units) (pv 2) pe_str (nomark _))
          (pss_cons (ps_expr (pe_bm PySem.F.plainAttrs_list PySem.F.slot_list_append PySem.F.type_list_append mt_append (pv 1) (pa_cons (pv 2) pa_nil)))
          (pss_one (ps_set (i := 2) sc__law_tokens.nd rfl (Or.inl rfl) pe_str)))
          pss_nil)
        (pss_one (ps_if (pt_cmpR op_notIn_sign (pv 3) pe_str (by rfl))
          (pss_one (ps_expr (pe_bm PySem.F.plainAttrs_list PySem.F.slot_list_append PySem.F.type_list_append mt_append (pv 1) (pa_cons (pv 3) pa_nil))))
          pss_nil)))
        (pss_one (ps_set (i := 2) sc__law_tokens.nd rfl (Or.inl rfl) (pe_op op_add_str (pv 2) (pv 3)))))))
    (pss_one (ps_ret (pv 1))))), go _ ?_⟩
  obtain ⟨l, hl, lo⟩ := i
  have hl : l.length ≤ 20000 := hl
  refine gs_parG (ea2 (ev_lst (K := K) (ds := []) ea_nil (by decide)) (ev_litT (K := K) (x := []) (by decide +kernel))) fun c1 c2 ⟨⟨lo', e1⟩, e2⟩ => ?_
  subst e1 e2
  refine gs_for (js := [3]) (ei_str (z := SX.S (l ++ [32])) (ev_addT (x := l) (y := [32]) (ev_var rfl) (ev_litT (by decide +kernel)) (by simp; omega))) (fun i cs' => ∃ (f : List (List Nat)) (r : List Nat) (c3 : Cell), cs' = [cD K (strD l), cOwn K lo' (f.map strD), cD K (strD r), c3] ∧ tkF ((l ++ [32]).drop i) f r = tokens l ∧ f.length ≤ 2 * i ∧ r.length ≤ i ∧ low r ∧ (i = l.length + 1 → r = [])) ⟨[], [], cNo, rfl, tkF_end l [] [], Nat.zero_le _, Nat.zero_le _, low_nil, fun _ => rfl⟩ ?_ ?_
  · rintro B1 sB i c cs' hi ⟨k, hk, rfl⟩ ⟨f, r, c3, rfl, ht, hf, hr', lr, _⟩
    rw [S_size, List.length_append, List.length_singleton] at hi
    have hk := S_ix hk
    have kl : k < 128 := low_app lo (low_one (by decide)) k (List.mem_of_getElem? hk)
    have hd := drop_at hk
    rw [hd] at ht
    have lastk : i = l.length → k = 32 := fun e => by
      subst e
      rw [List.getElem?_append_right (Nat.le_refl _), Nat.sub_self] at hk
      exact (Option.some.inj hk).symm
    have inS : ∀ {cs : List Cell}, cs[3]? = some (cD K (strD [k])) → Ev (tOp (fun x y H Q => ∃ (c : Nat) (z : Str), x = .str ⟨#[c]⟩ ∧ y = .str z ∧ Q (.bl (decide (c ∈ z.cps.toList))) H) (tVar 3) (tC (.str " \n\t+-*^()"))) cs (Is (cB K (bl k || mk k))) := fun h => (ev_inC (c := k) (ev_var h) ev_str).bo (by rw [signs_is]; exact sign_or k)
    have noB : ∀ {cs : List Cell}, cs[3]? = some (cD K (strD [k])) → Ev (tOp (fun x y H Q => ∃ (c : Nat) (z : Str), x = .str ⟨#[c]⟩ ∧ y = .str z ∧ Q (.bl (!decide (c ∈ z.cps.toList))) H) (tVar 3) (tC (.str " \n\t"))) cs (Is (cB K (!bl k))) := fun h => (ev_notInC (c := k) (ev_var h) ev_str).bo (by rw [blanks2_is, blank_or])
    refine ⟨_, tg_name, go_if (b := bl k || mk k) (et_test (inS rfl)) (fun h => ?_) (fun h => ?_)⟩
    · have ht : tkF ((l ++ [32]).drop (i + 1)) (if mk k then shut f r ++ [[k]] else shut f r) [] = tokens l := by
        rw [← ht]
        show _ = if bl k || mk k then _ else _
        rw [if_pos h]
      refine go_cut (fun cs' => cs' = [cD K (strD l), cOwn K lo' ((shut f r).map strD), cD K (strD []), cD K (strD [k])]) (go_if (et_test (ev_neT (ev_var rfl) (ev_litT (x := []) (by decide +kernel)) lr low_nil)) (fun hb => ?_) (fun hb => ?_)) ?_
      · have nr : r ≠ [] := by simpa using hb
        refine gs_append (i := 1) rfl (ev_var (d := strD r) rfl) (by rw [List.length_map]; omega) ?_
        refine go_set (ev_litT (K := K) (x := []) (by decide +kernel)) (go_mid ?_)
        have e : shut f r = f ++ [r] := if_neg nr
        rw [e, List.map_append]
        rfl
      · have er : r = [] := by simpa using hb
        subst er
        exact go_nx (go_mid rfl)
      · rintro cs' rfl
        have sl := shut_len f r
        refine go_if (et_test ((noB rfl).bo (mk_of h))) (fun hm => ?_) (fun hm => ?_)
        · rw [if_pos hm] at ht
          refine go_append (i := 1) (d := strD [k]) rfl (ev_var rfl) (by rw [List.length_map]; omega) (go_mid ⟨shut f r ++ [[k]], [], cD K (strD [k]), ?_, ht, ?_, Nat.zero_le _, low_nil, fun _ => rfl⟩)
          · rw [List.map_append]
            rfl
          · rw [List.length_append, List.length_singleton]
            omega
        · rw [if_neg (by rw [hm]; decide)] at ht
          exact go_nx (go_mid ⟨shut f r, [], _, rfl, ht, by omega, Nat.zero_le _, low_nil, fun _ => rfl⟩)
    · have ht : tkF ((l ++ [32]).drop (i + 1)) f (r ++ [k]) = tokens l := by
        rw [← ht]
        show _ = if bl k || mk k then _ else _
        rw [if_neg (by rw [h]; decide)]
      refine go_set (ev_addT (x := r) (y := [k]) (ev_var rfl) (ev_var rfl) (by simp; omega)) (go_mid ⟨f, r ++ [k], cD K (strD [k]), rfl, ht, by omega, by rw [List.length_append, List.length_singleton]; omega, low_app lr (low_one kl), fun e => ?_⟩)
      have := lastk (by omega)
      rw [this] at h
      exact absurd h (by decide)
  · rintro cs' ⟨f, r, c3, rfl, ht, hf, hr', lr, hlast⟩
    rw [S_size, List.length_append, List.length_singleton] at ht hlast
    have er := hlast rfl
    subst er
    have e0 : (l ++ [32]).drop (l.length + 1) = [] := List.drop_eq_nil_of_le (by simp)
    rw [e0] at ht
    have ht : f = tokens l := ht
    subst ht
    refine go_freeze (i := 1) rfl ?_
    exact go_retI (ev_var rfl) (rt _ (by simp))
end
end Y
namespace Y
open PySem L2 Z M StX
section
variable {P : Program} {w : World} {K : PySem.W.Frag} {mg : Str → Option Value} {base : Heap} {a : Ad} {d : Fd}
def hoursT : List Nat := [104, 111, 117, 114, 115]
theorem sum_le {α : Type} (f : α → Nat) (c : Nat) : ∀ l : List α, (∀ x ∈ l, f x ≤ c) → (l.map f).sum ≤ c * l.length
  | [], _ => by simp
  | x :: l, h => by
    have ih := sum_le f c l fun y hy => h y (List.mem_cons_of_mem _ hy)
    have h1 := h x (List.mem_cons_self ..)
    rw [List.map_cons, List.sum_cons, List.length_cons, Nat.mul_succ]
    omega
theorem sc_function_text : FnScope ["function", "one"] ["function"] (defScope (topS 19)) := ⟨rfl, rfl, rfl, by decide +kernel, rfl, by decide +kernel, by decide +kernel⟩
theorem ok_function_text (T : Txt K mg a d) : FnOk P w K mg base CX0 1 a.function_text d.function_text ["function"] (spP K (fun l : List Nat => l.length ≤ 600 ∧ ∀ z ∈ l, z < 1000) (fun l => [tI (l.map fun z : Nat => (z : Int))]) (fun l => strD (TL.joinL [32] (hoursT :: l.map nT)))) := by
  refine T.F_function_text.ok sc_function_text (fun vs H Q E h => spD_len (n := 1) (fun _ => rfl) h) (fun cdv A outer s H vs Q E hr h => ?_)
  obtain ⟨i, B0, F0, rt, go⟩ := enterD (N := ["function", "one"]) h
  refine ⟨_, (pss_one (ps_ret (pe_bm PySem.F.plainAttrs_str PySem.F.slot_str_join PySem.F.type_str_join mt_join pe_str (pa_cons (pe_lst (pa_cons pe_str (StX.pa_star (pe_lc (own := [("one", 1)]) (g := (gName 1)) rfl sc_function_text.nd (pi_tup (pv 0)) (blkOk_by (own := [("one", 1)]) (N := ["function", "one"]) (sc := defScope (topS 19)) (by decide +kernel)) (fun _ _ _ _ _ => (pg_name (i := 1) sc_function_text.nd rfl (Or.inl rfl))) (fun _ _ _ _ _ => pts_nil) (fun _ _ _ _ _ => (pe_callTy call_str_int (by rfl) T.n_str (by decide +kernel) (pa_cons (pv 1) pa_nil)))) pa_nil))) pa_nil)))), go _ ?_⟩
  obtain ⟨l, hl, hz⟩ := i
  have hl : l.length ≤ 600 := hl
  have hz : ∀ z ∈ l, z < 1000 := hz
  refine go_retI (c := cD K (strD (TL.joinL [32] (hoursT :: l.map nT)))) ((ev_join (x := SX.S [32]) (ss := (hoursT :: l.map nT).map SX.S) (ev_litT (x := [32]) (by decide +kernel)) ?_ ?_).eq ?_) (rt _ (by simp))
  · have e : (((hoursT :: l.map nT).map SX.S).map PyData.str) = [strD hoursT] ++ ((l.map fun z => strD (nT z)) ++ []) := by
      rw [List.append_nil, List.map_map, List.map_cons, List.map_map]
      rfl
    rw [e]
    refine ev_lstD (ds := [strD hoursT] ++ ((l.map fun z => strD (nT z)) ++ [])) ?_ (by simp; omega)
    refine ea_cons (ev_litT (x := hoursT) (by decide +kernel)) ?_
    refine ea_star (ds := l.map fun z => strD (nT z)) (es := []) (Ev.freeze (ev_lc1A l (fun z => .int (z : Nat)) (fun z => strD (nT z)) (ei_tup (ds := (l.map fun z : Nat => (z : Int)).map .int) (ev_var rfl)) (by rw [List.length_map, List.length_map]) (fun i c h => ?_) rfl (by omega) (fun z hz' => ev_strN (n := z) (ev_var rfl) (Nat.lt_trans (hz z hz') (by decide +kernel))))) ea_nil
    obtain ⟨y, h1, h2⟩ := item_ints h
    rw [List.getElem?_map] at h1
    cases e : l[i]? with
    | none => rw [e] at h1; cases h1
    | some z =>
      rw [e] at h1
      cases h1
      exact ⟨z, rfl, h2⟩
  · intro H p Q hs hq
    refine ⟨SX.S [32], p, (hoursT :: l.map nT).map SX.S, rfl, rfl, .inl hs, ?_, hq⟩
    have q := sum_le (fun x : Str => x.length) 100 ((hoursT :: l.map nT).map SX.S) fun x hx => by
      obtain ⟨t, ht, e⟩ := List.mem_map.mp hx
      rw [← e, SX.S_len]
      rcases List.mem_cons.mp ht with r | r
      · rw [r]; decide
      · obtain ⟨z, hz', e2⟩ := List.mem_map.mp r
        rw [← e2]
        exact nT_len (Nat.lt_trans (hz z hz') (by decide +kernel))
    simp only [List.length_map, List.length_cons, SX.S_len] at q ⊢
    simp only [List.length_nil] at *
    omega
  · exact congrArg PyData.str (SX.join_S [32] (hoursT :: l.map nT))
structure RF where
  m : Nat
  l : List Nat
  ts : List (List Nat)
def RF.ok (i : RF) : Prop := 0 < i.m ∧ i.m ≤ 600 ∧ i.l.length ≤ 20000 ∧ low i.l ∧ tokens i.l = hoursT :: i.ts ∧ i.ts.length = i.m ∧ ∀ t ∈ i.ts, numB t = true ∧ t.length ≤ 3 ∧ numV t < i.m
theorem sc_read_function : FnScope ["m", "text", "cursor", "found", "hour"] ["m", "text"] (defScope (topS 39)) := ⟨rfl, rfl, rfl, by decide +kernel, rfl, by decide +kernel, by decide +kernel⟩
theorem ok_read_function (T : Txt K mg a d) : FnOk P w K mg base CX0 8 a.read_function d.read_function ["m", "text"] (spP K RF.ok (fun i => [.int (i.m : Nat), strD i.l]) (fun i => tI (i.ts.map fun t => (numV t : Int)))) := by
  refine T.F_read_function.ok sc_read_function (fun vs H Q E h => spD_len (n := 2) (fun _ => rfl) h) (fun cdv A outer s H vs Q E hr h => ?_)
  obtain ⟨i, B0, F0, rt, go⟩ := enterD (N := ["m", "text", "cursor", "found", "hour"]) h
  refine ⟨_, (pss_cons (ps_expr (pe_call (ok_checked_clock T) (hr.mono (by decide)) rfl T.m_checked_clock T.F_checked_clock.kp T.b_checked_clock .nil pass0 (pa_cons (pv 0) pa_nil)))
    (pss_cons (ps_set (i := 2) sc_read_function.nd rfl (Or.inr rfl) (pe_make T.M_Cursor (ok_Cursor___init__ T) (hr.mono (by decide)) (by rfl) T.m_Cursor T.b_Cursor___init__ .nil pass0 (pa_cons (pv 1) pa_nil)))
    (pss_cons (ps_if (pt_cmpR op_gt (pv 0) (pe_glob rfl T.c_MOST_HOURS.choose_spec.1 T.c_MOST_HOURS.choose_spec.2) (nomark _))
      (pss_one ps_never)
      pss_nil)
    (pss_cons (ps_expr (pe_meth (pv 2) T.cl_Cursor T.me_Cursor_take (ok_Cursor_take T) (hr.mono (by decide)) T.b_Cursor_take .nil pass0 (pa_cons pe_str pa_nil)))
    (pss_cons (ps_setLc (i := 3) (own := [("hour", 4)]) (g := (gName 4)) rfl sc_read_function.nd rfl rfl (sw_true rfl rfl rfl (by decide +kernel)) (pi_range1 (by rfl) T.n_range (pa_cons (pv 0) pa_nil)) (blkOk_by (own := [("hour", 4)]) (N := ["m", "text", "cursor", "found", "hour"]) (sc := defScope (topS 39)) (by decide +kernel)) (fun _ _ _ _ _ => (pg_name (i := 4) sc_read_function.nd rfl (Or.inl rfl))) (fun _ _ _ _ _ => pts_nil) (fun _ _ _ _ _ => (pe_meth (pv 2) T.cl_Cursor T.me_Cursor_number (ok_Cursor_number T) (hr.mono (by decide)) T.b_Cursor_number .nil pass0 (pa_cons pe_int (pa_cons (pe_op op_sub (pv 0) pe_int) pa_nil)))))
    (pss_cons (ps_expr (pe_meth0 (pv 2) T.cl_Cursor T.me_Cursor_end (ok_Cursor_end T) (hr.mono (by decide)) T.b_Cursor_end .nil pass0))
    (pss_one (ps_ret (pe_callTy call_tuple_of (by rfl) T.n_tuple (by decide +kernel) (pa_cons (pv 3) pa_nil)))))))))), go _ ?_⟩
  obtain ⟨⟨m, l, ts⟩, h0, h1, hl, lo, ht, hlen, hts⟩ := i
  have h0 : 0 < m := h0
  have h1 : m ≤ 600 := h1
  have hl : l.length ≤ 20000 := hl
  have ht : tokens l = hoursT :: ts := ht
  have hlen : ts.length = m := hlen
  have hts : ∀ t ∈ ts, numB t = true ∧ t.length ≤ 3 ∧ numV t < m := hts
  have lows_ := low_tokens lo
  refine gs_drop (ev_call ⟨m, h0, Nat.le_trans h1 (by decide +kernel)⟩ (ea_cons (ev_var rfl) ea_nil)) ?_
  refine gs_asg (ev_newC hl lo (ev_var rfl)) fun c r => ?_
  obtain ⟨p, rfl⟩ := r
  refine gs_skip (et_is (et_test (ev_cmp2 (ev_var (d := .int (m : Nat)) rfl) (ev_int (n := 600)))) (decide_eq_false (by omega))) ?_
  have t0 : tk (tokens l) 0 = hoursT := by rw [ht]; rfl
  refine gs_dropX (ev_take (u := CU.mk p (tokens l) 0) (k := 2) (t := hoursT) rfl (ev_litT (by decide +kernel)) t0 (fun c hc => by
    simp [hoursT] at hc
    omega)) fun c cs' r => ?_
  subst r
  have tki : ∀ i, i < m → tk (tokens l) (1 + i) ∈ ts ∧ ts[i]? = some (tk (tokens l) (1 + i)) := fun i hi => by
    have e : tk (tokens l) (1 + i) = tk ts i := by
      rw [ht, Nat.add_comm]
      rfl
    rw [e]
    have q := tk_at (ts := ts) (i := i) (by omega)
    exact ⟨List.mem_of_getElem? q, q⟩
  refine gs_asgX (ev_lcS (K := K) (js := [4]) (fun i => [cI K (m : Nat), cD K (strD l), (CU.mk p (tokens l) (1 + i)).c K a.Cursor, cNo, cNo]) (ei_rng1 (n := (m : Nat)) (ev_var rfl) (by omega)) (fun i k hk => by rw [mem1 hk]; rfl) (fun j hj => hj) (fun i acc => acc = ((ts.take i).map fun t => (numV t : Int)).map .int) (by rw [List.take_zero]; rfl) (fun i acc hi e => by
      rw [e, List.length_map, List.length_map, List.length_take]
      omega) (fun i c acc hi ec e => ?_)) fun c cs' r => ?_
  · subst ec e
    have hi' : i < m := by omega
    obtain ⟨q1, q2⟩ := tki i hi'
    obtain ⟨n1, n2, n3⟩ := hts _ q1
    refine ⟨_, tg_name, rfl, fun k hk => List.getElem?_set_ne fun e => hk (by simp [e]), ?_⟩
    have q := ev_number (K := K) (a := a) (E := E0) (cs := [cI K (m : Nat), cD K (strD l), (CU.mk p (tokens l) (1 + i)).c K a.Cursor, cNo, cI K (i : Nat)]) (u := CU.mk p (tokens l) (1 + i)) (k := 2) (g := 3) (high := .int ((m : Int) - 1)) (tb := tC (.int 3)) (th := tOp (rI0 fun i j => .int (i - j)) (tVar 0) (tC (.int 1))) rfl (ev_int (n := 3)) (ev_int20 (ev_var (d := .int (m : Nat)) rfl) (ev_int (n := 1))) lows_ n1 n2 (by decide) (.inr ⟨(m : Int) - 1, rfl, by
      show ((numV (tk (tokens l) (1 + i)) : Nat) : Int) ≤ (m : Int) - 1
      omega⟩)
    intro B0 F0 ts0 us σ H hl0 S Q' q'
    refine q B0 F0 ts0 us σ H hl0 S Q' fun c v cs' H' ⟨r1, r2⟩ S' => ?_
    subst r1 r2
    refine q' _ v [cI K (m : Nat), cD K (strD l), (CU.mk p (tokens l) (1 + i + 1)).c K a.Cursor, cNo, cI K (i : Nat)] H' ⟨.int (numV (tk (tokens l) (1 + i)) : Nat), rfl, ?_, rfl, fun k hk => ?_⟩ S'
    · rw [List.take_succ, q2, List.map_append, List.map_append]
      rfl
    · match k, hk with
      | 0, _ => rfl
      | 1, _ => rfl
      | 2, _ => rfl
      | 3, _ => rfl
      | 4, hk => exact absurd (List.mem_singleton.mpr rfl) hk
      | k + 5, _ => rfl
  · obtain ⟨rfl, ds, ⟨lx, rfl⟩, rfl⟩ := r
    have em : ((m : Nat) : Int).toNat = m := Int.toNat_natCast m
    rw [em]
    refine gs_drop (ev_end (u := CU.mk p (tokens l) (1 + m)) (k := 2) rfl (by show (tokens l).length ≤ 1 + m; rw [ht, List.length_cons]; omega)) ?_
    refine go_freeze (i := 3) rfl ?_
    refine go_retI (ev_tupleL (ds := ((ts.take m).map fun t => (numV t : Int)).map .int) (ev_rdD rfl)) ?_
    have e : ts.take m = ts := List.take_of_length_le (by omega)
    rw [e]
    exact rt _ (by simp)
end
end Y
namespace Y
open PySem L2 Z M StX
section
variable {P : Program} {w : World} {K : PySem.W.Frag} {mg : Str → Option Value} {base : Heap} {a : Ad} {d : Fd}
def stp (st : List (List Nat) × List Nat) (c : Nat) : List (List Nat) × List Nat := if bl c || mk c then ((if mk c then shut st.1 st.2 ++ [[c]] else shut st.1 st.2), []) else (st.1, st.2 ++ [c])
theorem tkF_fold : ∀ (l : List Nat) (f : List (List Nat)) (r : List Nat), tkF l f r = shut (l.foldl stp (f, r)).1 (l.foldl stp (f, r)).2
  | [], f, r => rfl
  | c :: l, f, r => by
    show (if bl c || mk c then tkF l _ [] else tkF l f (r ++ [c])) = shut (l.foldl stp (stp (f, r) c)).1 (l.foldl stp (stp (f, r) c)).2
    by_cases h : (bl c || mk c) = true
    · have e : stp (f, r) c = ((if mk c then shut f r ++ [[c]] else shut f r), []) := if_pos h
      rw [if_pos h, e, tkF_fold l]
    · have e : stp (f, r) c = (f, r ++ [c]) := if_neg h
      rw [if_neg h, e, tkF_fold l]
theorem bl_mk {c : Nat} (h : bl c = true) : mk c = false := by
  unfold bl mk at *
  have := of_decide_eq_true h
  refine decide_eq_false ?_
  simp at this ⊢
  omega
theorem shut_nil (f : List (List Nat)) : shut f [] = f := if_pos rfl
theorem fold_blank : ∀ (b : List Nat) (f : List (List Nat)) (r : List Nat), (∀ c ∈ b, bl c = true) → b.foldl stp (f, r) = if b = [] then (f, r) else (shut f r, [])
  | [], f, r, _ => rfl
  | c :: b, f, r, h => by
    have hc := h c (List.mem_cons_self ..)
    have e : stp (f, r) c = (shut f r, []) := by
      show (if bl c || mk c then _ else _) = _
      rw [if_pos (by rw [hc]; rfl), bl_mk hc]
      rfl
    have e2 : (if c :: b = [] then (f, r) else (shut f r, [])) = (shut f r, ([] : List Nat)) := if_neg (fun z => nomatch z)
    rw [e2, List.foldl_cons, e, fold_blank b _ _ fun d hd => h d (List.mem_cons_of_mem _ hd)]
    split
    · rfl
    · rw [shut_nil]
theorem fold_word : ∀ (w : List Nat) (f : List (List Nat)) (r : List Nat), (∀ c ∈ w, (bl c || mk c) = false) → w.foldl stp (f, r) = (f, r ++ w)
  | [], f, r, _ => by rw [List.append_nil]; rfl
  | c :: w, f, r, h => by
    have hc := h c (List.mem_cons_self ..)
    have e : stp (f, r) c = (f, r ++ [c]) := if_neg (by rw [hc]; decide)
    rw [List.foldl_cons, e, fold_word w _ _ fun d hd => h d (List.mem_cons_of_mem _ hd), List.append_assoc]
    rfl
def isMk (w : List Nat) : Bool := decide (w ∈ [[43], [45], [42], [94], [40], [41]])
/-- a mark, or signs that are no marks and no blanks -/
def wordOk (w : List Nat) : Prop := isMk w = true ∨ (w ≠ [] ∧ ∀ c ∈ w, (bl c || mk c) = false)
theorem isMk_of {w : List Nat} (h : isMk w = true) : ∃ c, w = [c] ∧ mk c = true := by
  unfold isMk at h
  have := of_decide_eq_true h
  simp at this
  rcases this with rfl | rfl | rfl | rfl | rfl | rfl <;> exact ⟨_, rfl, rfl⟩
/-- the state behind some words -/
structure WS (t : List Nat) (ws : List (List Nat)) (f : List (List Nat)) (r : List Nat) : Prop where
  fold : t.foldl stp ([], []) = (f, r)
  shut : shut f r = ws
  last : r ≠ [] → ∃ w, ws.getLast? = some w ∧ isMk w = false
theorem ws_step {t b w : List Nat} {ws : List (List Nat)} {f : List (List Nat)} {r : List Nat} (S : WS t ws f r) (hb : ∀ c ∈ b, bl c = true) (hw : wordOk w) (hp : b = [] → (ws = [] ∨ (∃ v, ws.getLast? = some v ∧ isMk v = true) ∨ isMk w = true)) : ∃ f' r', WS (t ++ b ++ w) (ws ++ [w]) f' r' := by
  have e1 : (t ++ b).foldl stp ([], []) = if b = [] then (f, r) else (ws, []) := by
    rw [List.foldl_append, S.fold, fold_blank b f r hb, S.shut]
  have wl : (ws ++ [w]).getLast? = some w := by simp
  rcases hw with hm | ⟨hn, hc⟩
  · obtain ⟨c, rfl, mc⟩ := isMk_of hm
    refine ⟨ws ++ [[c]], [], ?_, shut_nil _, fun h => absurd rfl h⟩
    rw [List.foldl_append, e1]
    have st : ∀ f r, stp (f, r) c = (Y.shut f r ++ [[c]], []) := fun f r => by
      show (if bl c || mk c then _ else _) = _
      rw [if_pos (by rw [mc, Bool.or_true]), if_pos mc]
    split
    · show stp (f, r) c = _
      rw [st, S.shut]
    · show stp (ws, []) c = _
      rw [st, shut_nil]
  · have nm : isMk w = false := by
      cases q : isMk w with
      | false => rfl
      | true =>
        obtain ⟨c, rfl, mc⟩ := isMk_of q
        have := hc c (List.mem_singleton.mpr rfl)
        rw [mc, Bool.or_true] at this
        cases this
    have fin : ∀ g : List (List Nat), g = ws → (t ++ b).foldl stp ([], []) = (g, []) → ∃ f' r', WS (t ++ b ++ w) (ws ++ [w]) f' r' := fun g eg e => by
      subst eg
      refine ⟨g, w, ?_, if_neg hn, fun _ => ⟨w, wl, nm⟩⟩
      rw [List.foldl_append, e, fold_word w g [] hc, List.nil_append]
    by_cases hb0 : b = []
    · rw [if_pos hb0] at e1
      have r0 : r = [] := by
        cases q : decide (r = []) with
        | true => exact of_decide_eq_true q
        | false =>
          have nr := of_decide_eq_false q
          obtain ⟨v, hv, mv⟩ := S.last nr
          rcases hp hb0 with z | ⟨v', z1, z2⟩ | z
          · rw [z] at hv
            cases hv
          · rw [z1] at hv
            cases hv
            rw [mv] at z2
            cases z2
          · rw [nm] at z
            cases z
      subst r0
      have ef : f = ws := by
        rw [← S.shut, shut_nil]
      exact fin f ef e1
    · rw [if_neg hb0] at e1
      exact fin ws rfl e1
theorem ws_end {t b : List Nat} {ws : List (List Nat)} {f : List (List Nat)} {r : List Nat} (S : WS t ws f r) (hb : ∀ c ∈ b, bl c = true) : tokens (t ++ b) = ws := by
  unfold tokens
  rw [tkF_fold, List.foldl_append, S.fold, fold_blank b f r hb]
  split
  · exact S.shut
  · show shut (shut f r) [] = ws
    rw [shut_nil, S.shut]
theorem ws_start {b : List Nat} (hb : ∀ c ∈ b, bl c = true) : WS b [] [] [] := ⟨by
  rw [fold_blank b [] [] hb]
  split <;> rfl, rfl, fun h => absurd rfl h⟩
end
end Y
namespace Y
open PySem L2 Z M StX
section
variable {P : Program} {w : World} {K : PySem.W.Frag} {mg : Str → Option Value} {base : Heap} {a : Ad} {d : Fd}
def isTx (K : PySem.W.Frag) (P : List Nat → Prop) : Cell → Prop := isD K (fun d => ∃ b, d = strD b ∧ P b)
section
variable {cs : List Cell} {x y : Addr} {k : Nat} {td tl ta tb : TE} {E : XK} {P Q : List Nat → Prop}
theorem ev_ofT {bs : List (List Nat) → Prop} (hk : cs[k]? = some (cDl x y)) (hd : Ev td cs (Is (cV (.ref x)))) (hb : Ev tl cs (isLs K (fun ds => ∃ l, ds = l.map strD ∧ bs l))) (h0 : ∀ l, bs l → 0 < l.length ∧ l.length ≤ 1000) (hq : ∀ l b, bs l → b ∈ l → P b) : Ev (tCall (spOf K) [] E (tCons td (tCons tl tNil))) cs (isTx K P) :=
  (ev_of hk hd hb fun ds ⟨l, e, p⟩ => by rw [e, List.length_map]; exact h0 l p).imp fun c ⟨d, e, ds, ⟨l, e2, p⟩, m⟩ => by
    rw [e2] at m
    obtain ⟨b, hb, e3⟩ := List.mem_map.mp m
    exact ⟨d, e, b, e3.symm, hq l b p hb⟩
theorem ev_addTN {n : Nat} (ha : Ev ta cs (isTx K P)) (hb : Ev tb cs (isTx K Q)) (hz : ∀ a b, P a → Q b → a.length + b.length ≤ 100000) : Ev (tOp (fun x y H Q => ∃ i j, x = .str i ∧ y = .str j ∧ i.length + j.length ≤ sizeLine ∧ Q (.str (i ++ j)) H) ta tb) cs (isTx K (fun c => ∃ a b, P a ∧ Q b ∧ c = a ++ b)) :=
  ev_opD ha hb fun d1 d2 ⟨a, e1, p1⟩ ⟨b, e2, p2⟩ H x y h1 h2 Q' q => by
    subst e1 e2
    refine ⟨SX.S a, SX.S b, dp_str h1, dp_str h2, by rw [SX.S_len, SX.S_len]; exact sz_of (hz a b p1 p2), ?_⟩
    rw [S_app]
    exact q (strD (a ++ b)) _ ⟨_, rfl, _, rfl, a, b, p1, p2, rfl⟩ fun _ => .str _
theorem ev_tx {z : List Nat} (h : Ev ta cs (Is (cD K (strD z)))) : Ev ta cs (isTx K (fun b => b = z)) := h.imp fun c r => ⟨_, r, z, rfl, rfl⟩
end
def WOK (ws : List (List Nat)) : Prop := (∀ w ∈ ws, wordOk w ∧ low w) ∧ (ws.map List.length).sum + 2 * ws.length + 4 ≤ 20000
abbrev spWr (K : PySem.W.Frag) : Sp := spR (fun i : {x : Addr × Addr × List (List Nat) // WOK x.2.2} => [cDl i.1.1 i.1.2.1, cD K (.list (i.1.2.2.map strD))]) (fun i cs' c' => (∃ t, c' = cD K (strD t) ∧ tokens t = i.1.2.2 ∧ low t ∧ t.length ≤ 20000) ∧ cs' = [cDl i.1.1 i.1.2.1, cNo])
def blk (b : List Nat) : Prop := b.length ≤ 2 ∧ ∀ c ∈ b, bl c = true
theorem blk_low {b : List Nat} (h : ∀ c ∈ b, bl c = true) : low b := fun c hc => by
  have := h c hc
  unfold bl at this
  have := of_decide_eq_true this
  simp at this
  omega
theorem take_sum (ws : List (List Nat)) {i : Nat} {w : List Nat} (h : ws[i]? = some w) : ((ws.take (i + 1)).map List.length).sum = ((ws.take i).map List.length).sum + w.length := by
  rw [List.take_succ, h, List.map_append, List.sum_append]
  simp
theorem take_sum_le (ws : List (List Nat)) (i : Nat) : ((ws.take i).map List.length).sum ≤ (ws.map List.length).sum := by
  have e : (ws.map List.length).sum = ((ws.take i).map List.length).sum + ((ws.drop i).map List.length).sum := by
    rw [← List.sum_append, ← List.map_append, List.take_append_drop]
  omega
theorem enumL {K : PySem.W.Frag} {ws : List (List Nat)} {i : Nat} {c : Cell} (h : ∃ d, (ws.map strD)[i]? = some d ∧ c = cD K (.tuple [.int i, d])) : ∃ w, ws[i]? = some w ∧ c = cD K (.tuple [.int i, strD w]) := by
  obtain ⟨d, e1, e2⟩ := h
  rw [List.getElem?_map] at e1
  cases e : ws[i]? with
  | none => rw [e] at e1; cases e1
  | some w =>
    rw [e] at e1
    cases e1
    exact ⟨w, rfl, e2⟩
theorem any_mk (w : List Nat) : ([SX.S [43], SX.S [45], SX.S [42], SX.S [94], SX.S [40], SX.S [41]].any fun s => s == SX.S w) = isMk w := by
  show ((SX.S [43] == SX.S w) || ((SX.S [45] == SX.S w) || ((SX.S [42] == SX.S w) || ((SX.S [94] == SX.S w) || ((SX.S [40] == SX.S w) || ((SX.S [41] == SX.S w) || false)))))) = _
  rw [S_eq, S_eq, S_eq, S_eq, S_eq, S_eq]
  unfold isMk
  by_cases h : w ∈ [[43], [45], [42], [94], [40], [41]]
  · rw [decide_eq_true h]
    simp at h
    rcases h with rfl | rfl | rfl | rfl | rfl | rfl <;> decide
  · rw [decide_eq_false h]
    simp only [List.mem_cons, List.not_mem_nil, or_false, not_or] at h
    obtain ⟨h1, h2, h3, h4, h5, h6⟩ := h
    rw [decide_eq_false (Ne.symm h1), decide_eq_false (Ne.symm h2), decide_eq_false (Ne.symm h3), decide_eq_false (Ne.symm h4), decide_eq_false (Ne.symm h5), decide_eq_false (Ne.symm h6)]
    rfl
theorem sc__law_written : FnScope ["deal", "words", "found", "at", "word", "plain"] ["deal", "words"] (defScope (topS 52)) := ⟨rfl, rfl, rfl, by decide +kernel, rfl, by decide +kernel, by decide +kernel⟩
theorem ok__law_written (T : Txt K mg a d) : FnOk P w K mg base CX0 3 a._law_written d._law_written ["deal", "words"] (spWr K) := by
  refine T.F__law_written.ok sc__law_written (fun vs H Q E h => spR_len (n := 2) (fun _ => rfl) h) (fun cdv A outer s H vs Q E hr h => ?_)
  obtain ⟨i, B0, F0, rt, go⟩ := enter (N := ["deal", "words", "found", "at", "word", "plain"]) h
  refine ⟨_, (pss_cons (ps_set (i := 2) sc__law_written.nd rfl (Or.inl rfl) (pe_call (ok__law_of T) (hr.mono (by decide)) rfl T.m__law_of T.F__law_of.kp T.b__law_of .nil pass0 (pa_cons (pv 0) (pa_cons (pe_lst (pa_cons pe_str (pa_cons pe_str (pa_cons pe_str pa_nil)))) pa_nil))))
    (pss_cons (ps_for PassesOwn.never rfl (pi_enumM false (by rfl) T.n_enumerate (pa_cons (pv 1) pa_nil)) (pg_tup rfl (pgs_cons (pg_name (i := 3) sc__law_written.nd rfl (Or.inl rfl)) (pgs_cons (pg_name (i := 4) sc__law_written.nd rfl (Or.inl rfl)) pgs_nil)))
      (pss_cons (ps_set (i := 5) sc__law_written.nd rfl (Or.inl rfl) (pe_or (pe_cmpR (op_eqD hr.units) (pv 3) pe_int (nomark _)) (pe_or (pe_cmpR op_in_seq (pe_ix ix_list (pv 1) (pe_op op_sub (pv 3) pe_int) (fun _ _ => rfl)) (pe_lst (pa_cons pe_str (pa_cons pe_str (pa_cons pe_str (pa_cons pe_str (pa_cons pe_str (pa_cons pe_str pa_nil))))))) (by rfl)) (pe_one (pe_cmpR op_in_seq (pv 4) (pe_lst (pa_cons pe_str (pa_cons pe_str (pa_cons pe_str (pa_cons pe_str (pa_cons pe_str (pa_cons pe_str pa_nil))))))) (by rfl))))))
      (pss_one (ps_set (i := 2) sc__law_written.nd rfl (Or.inl rfl) (pe_op op_add_str (pe_op op_add_str (pv 2) (pe_call (ok__law_of T) (hr.mono (by decide)) rfl T.m__law_of T.F__law_of.kp T.b__law_of .nil pass0 (pa_cons (pv 0) (pa_cons (pe_ifExp (pt_val (pv 5)) (pe_lst (pa_cons pe_str (pa_cons pe_str (pa_cons pe_str (pa_cons pe_str (pa_cons pe_str (pa_cons pe_str pa_nil))))))) (pe_lst (pa_cons pe_str (pa_cons pe_str (pa_cons pe_str (pa_cons pe_str pa_nil)))))) pa_nil)))) (pv 4))))))
    (pss_one (ps_ret (pe_op op_add_str (pv 2) (pe_call (ok__law_of T) (hr.mono (by decide)) rfl T.m__law_of T.F__law_of.kp T.b__law_of .nil pass0 (pa_cons (pv 0) (pa_cons (pe_lst (pa_cons pe_str (pa_cons pe_str (pa_cons pe_str pa_nil)))) pa_nil)))))))), go _ ?_⟩
  obtain ⟨⟨x, y, ws⟩, hw, hs⟩ := i
  have hw : ∀ w ∈ ws, wordOk w ∧ low w := hw
  have hs : (ws.map List.length).sum + 2 * ws.length + 4 ≤ 20000 := hs
  have pick3 : ∀ {cs : List Cell} {E : XK}, cs[0]? = some (cDl x y) → Ev (tCall (spOf K) [] E (tCons (tVar 0) (tCons (tLst (tCons (tC (.str "")) (tCons (tC (.str " ")) (tCons (tC (.str "\n")) tNil)))) tNil))) cs (isTx K blk) := fun {cs E} h =>
    ev_ofT (bs := fun l => l = [[], [32], [10]]) (k := 0) h (deal_v h) ((ev_lstD (ds := [strD [], strD [32], strD [10]]) (ea_cons (ev_litT (by decide +kernel)) (ea_cons (ev_litT (by decide +kernel)) (ea_cons (ev_litT (by decide +kernel)) ea_nil))) (by simp)).imp fun c r => ⟨_, r, _, rfl, rfl⟩) (fun l e => by rw [e]; decide) fun l b e m => by
      subst e
      simp at m
      rcases m with rfl | rfl | rfl <;> exact ⟨by decide, by decide⟩
  refine gs_asg (pick3 rfl) fun c r => ?_
  obtain ⟨d0, rfl, t0, rfl, b1, b2⟩ := r
  refine gs_for (js := [3, 4]) (ei_enum (b := false) (ds := ws.map strD) (ev_var rfl)) (fun i cs' => ∃ t f r c3 c4 c5, cs' = [cDl x y, cD K (.list (ws.map strD)), cD K (strD t), c3, c4, c5] ∧ WS t (ws.take i) f r ∧ low t ∧ t.length ≤ ((ws.take i).map List.length).sum + 2 * i + 2) ⟨t0, [], [], cNo, cNo, cNo, rfl, by rw [List.take_zero]; exact ws_start b2, blk_low b2, by simp; exact b1⟩ ?_ ?_
  · rintro B1 sB i c cs' hi hc ⟨t, f, r, c3, c4, c5, rfl, W, lt, tl⟩
    obtain ⟨w, hwi, rfl⟩ := enumL hc
    have hil := (List.getElem?_eq_some_iff.mp hwi).1
    obtain ⟨wok, wl⟩ := hw w (List.mem_of_getElem? hwi)
    have ts := take_sum ws hwi
    have tle := take_sum_le ws (i + 1)
    have marks : ∀ {cs : List Cell}, Ev (tLst (tCons (tC (.str "+")) (tCons (tC (.str "-")) (tCons (tC (.str "*")) (tCons (tC (.str "^")) (tCons (tC (.str "(")) (tCons (tC (.str ")")) tNil))))))) cs (Is (cD K (.list ([SX.S [43], SX.S [45], SX.S [42], SX.S [94], SX.S [40], SX.S [41]].map .str)))) := fun {cs} => ev_lstD (ds := [strD [43], strD [45], strD [42], strD [94], strD [40], strD [41]]) (ea_cons (ev_litT (by decide +kernel)) (ea_cons (ev_litT (by decide +kernel)) (ea_cons (ev_litT (by decide +kernel)) (ea_cons (ev_litT (by decide +kernel)) (ea_cons (ev_litT (by decide +kernel)) (ea_cons (ev_litT (by decide +kernel)) ea_nil)))))) (by simp)
    have prev : ∃ v, (0 < i → ws[i - 1]? = some v ∧ (ws.take i).getLast? = some v) := by
      by_cases h0 : 0 < i
      · refine ⟨ws[i - 1]'(by omega), fun _ => ⟨List.getElem?_eq_getElem (by omega), ?_⟩⟩
        rw [List.getLast?_eq_getElem?, List.length_take, Nat.min_eq_left (by omega), List.getElem?_take, if_pos (by omega)]
        exact List.getElem?_eq_getElem (by omega)
      · exact ⟨[], fun h => absurd h h0⟩
    obtain ⟨v, hv⟩ := prev
    refine ⟨_, tg_pair, gs_set (c := cB K (decide (i = 0) || (isMk v || isMk w))) (ev_orV (a := decide (i = 0)) (b := isMk v || isMk w) ((ev_eqI (ev_var (d := .int (i : Nat)) rfl) (ev_int (n := 0))).bo (by simp)) fun h => ev_orV ((ev_inLs (x := SX.S v) (ev_ixL (i := ((i - 1 : Nat) : Int)) (d := strD v) (ds := ws.map strD) (ev_rdD rfl) ((ev_int20 (ev_var (d := .int (i : Nat)) rfl) (ev_int (n := 1))).il ?_) ?_) marks).bo (any_mk v)) fun _ => (ev_inLs (x := SX.S w) (ev_var rfl) marks).bo (any_mk w)) ?_⟩
    · have := of_decide_eq_false h
      omega
    · have h0 := of_decide_eq_false h
      refine Z.atI_nat ?_
      rw [List.getElem?_map, (hv (by omega)).1]
      rfl
    · have nd : Ev (tCall (spOf K) [] E0 (tCons (tVar 0) (tCons (tIf (tB (tVar 5)) (tLst (tCons (tC (.str " ")) (tCons (tC (.str "")) (tCons (tC (.str "\n")) (tCons (tC (.str "\t")) (tCons (tC (.str "  ")) (tCons (tC (.str "")) tNil))))))) (tLst (tCons (tC (.str " ")) (tCons (tC (.str " ")) (tCons (tC (.str "\n")) (tCons (tC (.str "\t")) tNil)))))) tNil))) [cDl x y, cD K (.list (ws.map strD)), cD K (strD t), cI K (i : Nat), cD K (strD w), cB K (decide (i = 0) || (isMk v || isMk w))] (isTx K (fun b => blk b ∧ (b = [] → (decide (i = 0) || (isMk v || isMk w)) = true))) := by
        refine ev_ofT (bs := fun l => (l = [[32], [], [10], [9], [32, 32], []] ∧ (decide (i = 0) || (isMk v || isMk w)) = true) ∨ l = [[32], [32], [10], [9]]) (k := 0) rfl (ev_varP rfl cDl_pin) (ev_if (et_B (ev_var rfl)) (fun h => (ev_lstD (ds := [strD [32], strD [], strD [10], strD [9], strD [32, 32], strD []]) (ea_cons (ev_litT (by decide +kernel)) (ea_cons (ev_litT (by decide +kernel)) (ea_cons (ev_litT (by decide +kernel)) (ea_cons (ev_litT (by decide +kernel)) (ea_cons (ev_litT (by decide +kernel)) (ea_cons (ev_litT (by decide +kernel)) ea_nil)))))) (by simp)).imp fun c r => ⟨_, r, _, rfl, .inl ⟨rfl, h⟩⟩)
          (fun h => (ev_lstD (ds := [strD [32], strD [32], strD [10], strD [9]]) (ea_cons (ev_litT (by decide +kernel)) (ea_cons (ev_litT (by decide +kernel)) (ea_cons (ev_litT (by decide +kernel)) (ea_cons (ev_litT (by decide +kernel)) ea_nil)))) (by simp)).imp fun c r => ⟨_, r, _, rfl, .inr rfl⟩)) (fun l h => by
            rcases h with ⟨rfl, _⟩ | rfl <;> decide) fun l b h m => by
            rcases h with ⟨rfl, h2⟩ | rfl
            · simp at m
              refine ⟨?_, fun _ => h2⟩
              rcases m with rfl | rfl | rfl | rfl | rfl | rfl <;> exact ⟨by decide, by decide⟩
            · simp at m
              rcases m with rfl | rfl | rfl <;> exact ⟨⟨by decide, by decide⟩, fun e => by cases e⟩
      refine go_asg (ev_addTN (n := 0) (ev_addTN (n := 0) (ev_tx (z := t) (ev_var rfl)) nd ?_) (ev_tx (z := w) (ev_var rfl)) ?_) fun c r => ?_
      · rintro a b rfl ⟨⟨hb, _⟩, _⟩
        omega
      · rintro a b ⟨a', b', rfl, ⟨⟨hb, _⟩, _⟩, rfl⟩ rfl
        rw [List.length_append]
        omega
      · obtain ⟨d, rfl, t2, rfl, a', b', ⟨a2, b2, rfl, ⟨⟨hb, hbl⟩, hpl⟩, rfl⟩, rfl, rfl⟩ := r
        obtain ⟨f', r', W'⟩ := ws_step (w := b') W hbl wok fun e => by
          have h := hpl e
          by_cases h0 : i = 0
          · exact .inl (by rw [h0, List.take_zero])
          · rw [decide_eq_false h0, Bool.false_or, Bool.or_eq_true] at h
            rcases h with h | h
            · exact .inr (.inl ⟨v, (hv (by omega)).2, h⟩)
            · exact .inr (.inr h)
        refine go_mid ⟨a2 ++ b2 ++ b', f', r', _, _, _, rfl, ?_, low_app (low_app lt (blk_low hbl)) wl, ?_⟩
        · rw [List.take_succ, hwi]
          exact W'
        · rw [List.length_append, List.length_append, ts]
          omega
  · rintro cs' ⟨t, f, r, c3, c4, c5, rfl, W, lt, tl⟩
    rw [List.length_map, List.take_length] at W tl
    refine go_ret (ev_addTN (n := 0) (ev_tx (z := t) (ev_var rfl)) (pick3 rfl) ?_) fun c r => ?_
    · rintro a b rfl ⟨hb, _⟩
      omega
    · obtain ⟨d, rfl, t2, rfl, a2, b2, rfl, ⟨hb, hbl⟩, rfl⟩ := r
      exact rt _ _ _ ⟨⟨a2 ++ b2, rfl, ws_end W hbl, low_app lt (blk_low hbl), by rw [List.length_append]; omega⟩, rfl⟩ (.keep cDl_pin cDl_pin (.no .nil))
end
end Y
namespace Y
open PySem L2 Z M StX
section
variable {P : Program} {w : World} {K : PySem.W.Frag} {mg : Str → Option Value} {base : Heap} {a : Ad} {d : Fd}
def sits (ts : List (List Nat)) (i : Nat) (ws : List (List Nat)) : Prop := ∀ k, k < ws.length → tk ts (i + k) = tk ws k
theorem tk_app1 (a b : List (List Nat)) {k : Nat} (h : k < a.length) : tk (a ++ b) k = tk a k := by
  unfold tk
  rw [List.getD_eq_getElem?_getD, List.getD_eq_getElem?_getD, List.getElem?_append_left h]
theorem tk_app2 (a b : List (List Nat)) (k : Nat) : tk (a ++ b) (a.length + k) = tk b k := by
  unfold tk
  rw [List.getD_eq_getElem?_getD, List.getD_eq_getElem?_getD, List.getElem?_append_right (Nat.le_add_right _ _), Nat.add_sub_cancel_left]
theorem sits_l {ts : List (List Nat)} {i : Nat} {a b : List (List Nat)} (h : sits ts i (a ++ b)) : sits ts i a := fun k hk => by
  rw [h k (by rw [List.length_append]; omega), tk_app1 a b hk]
theorem sits_r {ts : List (List Nat)} {i : Nat} {a b : List (List Nat)} (h : sits ts i (a ++ b)) : sits ts (i + a.length) b := fun k hk => by
  rw [Nat.add_assoc, h (a.length + k) (by rw [List.length_append]; omega), tk_app2]
theorem sits_1 {ts : List (List Nat)} {i : Nat} {w : List Nat} {b : List (List Nat)} (h : sits ts i (w :: b)) : tk ts i = w := h 0 (Nat.zero_lt_succ _)
theorem sits_t {ts : List (List Nat)} {i : Nat} {w : List Nat} {b : List (List Nat)} (h : sits ts i (w :: b)) : sits ts (i + 1) b := sits_r (a := [w]) (b := b) h
def Rd (R : Rel) (bad : List (List Nat)) (ws : List (List Nat)) (row : List Int) : Prop := ∀ ts i, sits ts i ws → tk ts (i + ws.length) ∉ bad → R ts i row (i + ws.length)
theorem rd_x {D : Nat} {S : Rel} (ok : okR [0, 1]) : Rd (AtomOf D S) [] [[120]] [0, 1] := fun ts i h _ => ⟨ok, .inl ⟨sits_1 h, rfl, rfl⟩⟩
theorem rd_num {D : Nat} {S : Rel} {w : List Nat} (hn : numB w = true) (hl : w.length ≤ 60) (ok : okR (trimI [(numV w : Int)])) : Rd (AtomOf D S) [] [w] (trimI [(numV w : Int)]) := fun ts i h _ => ⟨ok, .inr (.inr (by
  have e := sits_1 h
  rw [e]
  exact ⟨hn, hl, rfl, rfl⟩))⟩
theorem rd_br {D : Nat} {S : Rel} {ws : List (List Nat)} {row : List Int} (hD : D < 20) (h : Rd S [[94], [42], [43], [45]] ws row) (ok : okR row) : Rd (AtomOf D S) [] ([40] :: (ws ++ [[41]])) row := fun ts i s _ => ⟨ok, .inr (.inl (by
  have s1 := sits_t s
  have s2 := sits_1 (sits_r s1)
  refine ⟨sits_1 s, hD, _, h ts (i + 1) (sits_l s1) (by rw [s2]; decide), s2, ?_⟩
  simp only [List.length_cons, List.length_append, List.length_nil]
  omega))⟩
theorem rd_pow0 {At : Rel} {ws : List (List Nat)} {row : List Int} (h : Rd At [] ws row) : Rd (PowOf At) [[94]] ws row := fun ts i s n => .inl ⟨h ts i s (by simp), fun e => n (by rw [e]; simp)⟩
theorem rd_powk {At : Rel} {ws : List (List Nat)} {base : List Int} {w : List Nat} (h : Rd At [] ws base) (ok : okR base) (hn : numB w = true) (hl : w.length ≤ 2) (hv : numV w ≤ 60) (hk : ∀ k, k ≤ numV w → okR (powI base k)) : Rd (PowOf At) [[94]] (ws ++ [[94], w]) (powI base (numV w)) := fun ts i s _ => .inr (by
  have s1 := sits_r s
  have e1 := sits_1 s1
  have e2 := sits_1 (sits_t s1)
  refine ⟨base, _, h ts i (sits_l s) (by simp), ok, e1, ?_⟩
  rw [e2]
  refine ⟨hn, hl, hv, hk, rfl, ?_⟩
  simp only [List.length_cons, List.length_append, List.length_nil]
  omega)
def RdP (Pw : Rel) (ws : List (List Nat)) (row : List Int) : Prop := ∀ ts i, sits ts i ws → tk ts (i + ws.length) ≠ [94] → ∀ row' j m, RLn Pw ts m row (i + ws.length) row' j → ProdOf Pw ts i row' j
theorem rdP_one {Pw : Rel} {ws : List (List Nat)} {row : List Int} (h : Rd Pw [[94]] ws row) : RdP Pw ws row := fun ts i s n row' j m r => ⟨row, _, m, h ts i s (by simpa using n), r⟩
theorem rdP_snoc {Pw : Rel} {ws w : List (List Nat)} {row r2 : List Int} (h : RdP Pw ws row) (h2 : Rd Pw [[94]] w r2) (o1 : okR row) (o2 : okR r2) (o3 : okR (mulI row r2)) : RdP Pw (ws ++ [42] :: w) (mulI row r2) := fun ts i s n row' j m r => by
  have s1 := sits_r s
  have e1 := sits_1 s1
  have el : i + (ws ++ [42] :: w).length = i + ws.length + 1 + w.length := by
    simp only [List.length_cons, List.length_append]
    omega
  rw [el] at n r
  exact h ts i (sits_l s) (by rw [e1]; decide) row' j (m + 1) ⟨r2, _, e1, h2 ts _ (sits_t s1) (by simpa using n), o1, o2, o3, r⟩
theorem rdP_end {Pw : Rel} {ws : List (List Nat)} {row : List Int} (h : RdP Pw ws row) : Rd (ProdOf Pw) [[94], [42]] ws row := fun ts i s n => h ts i s (fun e => n (by rw [e]; simp)) row _ 0 ⟨fun e => n (by rw [e]; simp), rfl, rfl⟩
def RdS (Pd : Rel) (ws : List (List Nat)) (row : List Int) : Prop := ∀ ts i, sits ts i ws → tk ts (i + ws.length) ∉ [[94], [42]] → ∀ row' j m, SLn Pd ts m row (i + ws.length) row' j → SumOf Pd ts i row' j
theorem rdS_one {Pd : Rel} {ws : List (List Nat)} {row : List Int} (h : Rd Pd [[94], [42]] ws row) (ok : okR row) (h0 : 0 < ws.length) (hm : tk ws 0 ≠ [45]) : RdS Pd ws (addI [] row 1) := fun ts i s n row' j m r => ⟨1, i, row, _, m, .inr ⟨by
  have := s 0 h0
  rw [Nat.add_zero] at this
  rw [this]
  exact hm, rfl, rfl⟩, h ts i s n, ok, r⟩
theorem rdS_neg {Pd : Rel} {ws : List (List Nat)} {row : List Int} (h : Rd Pd [[94], [42]] ws row) (ok : okR row) : RdS Pd ([45] :: ws) (addI [] row (-1)) := fun ts i s n row' j m r => by
  have el : i + ([45] :: ws).length = i + 1 + ws.length := by
    simp only [List.length_cons]
    omega
  rw [el] at n r
  exact ⟨-1, i + 1, row, _, m, .inl ⟨sits_1 s, rfl, rfl⟩, h ts _ (sits_t s) n, ok, r⟩
theorem rdS_snoc {Pd : Rel} {ws w : List (List Nat)} {row r2 : List Int} {g : List Nat} {z : Int} (hg : (g = [43] ∧ z = 1) ∨ (g = [45] ∧ z = -1)) (h : RdS Pd ws row) (h2 : Rd Pd [[94], [42]] w r2) (o1 : okR row) (o2 : okR r2) : RdS Pd (ws ++ g :: w) (addI row r2 z) := fun ts i s n row' j m r => by
  have s1 := sits_r s
  have e1 := sits_1 s1
  have el : i + (ws ++ g :: w).length = i + ws.length + 1 + w.length := by
    simp only [List.length_cons, List.length_append]
    omega
  rw [el] at n r
  refine h ts i (sits_l s) (by rw [e1]; rcases hg with ⟨rfl, _⟩ | ⟨rfl, _⟩ <;> decide) row' j (m + 1) ⟨z, r2, _, ?_, h2 ts _ (sits_t s1) n, o1, o2, r⟩
  rw [e1]
  exact hg
theorem rdS_end {Pd : Rel} {ws : List (List Nat)} {row : List Int} (h : RdS Pd ws row) : Rd (SumOf Pd) [[94], [42], [43], [45]] ws row := fun ts i s n => h ts i s (fun e => n (by simp at e ⊢; rcases e with e | e <;> simp [e])) row _ 0 ⟨fun e => n (by rw [e]; simp), fun e => n (by rw [e]; simp), rfl, rfl⟩
end
end Y
namespace Y
open PySem L2 Z M StX
section
variable {P : Program} {w : World} {K : PySem.W.Frag} {mg : Str → Option Value} {base : Heap} {a : Ad} {d : Fd}
theorem numV_nT (n : Nat) : numV (nT n) = n := TL.numL_val n
theorem nT_dig (n : Nat) {c : Nat} (h : c ∈ nT n) : 48 ≤ c ∧ c ≤ 57 := TL.numL_digits n c h
theorem nT_dg (n : Nat) {c : Nat} (h : c ∈ nT n) : dg c = true := by
  have := nT_dig n h
  unfold dg
  simp
  omega
theorem nT_head : ∀ n, (nT n).head? = some 48 → n = 0 := fun n => by
  induction n using Nat.strongRecOn with
  | ind n ih =>
    intro h
    by_cases h10 : n < 10
    · have e : nT n = [48 + n] := TL.numL_lt h10
      rw [e] at h
      have : 48 + n = 48 := by simpa using h
      omega
    · have e : nT n = nT (n / 10) ++ [48 + n % 10] := TL.numL_step (by omega)
      have ne : nT (n / 10) ≠ [] := TL.numL_ne _
      have hh : (nT (n / 10)).head? = some 48 := by
        rw [e] at h
        generalize nT (n / 10) = w at h ne ⊢
        cases w with
        | nil => exact absurd rfl ne
        | cons c w => exact h
      have := ih (n / 10) (by omega) hh
      omega
theorem nT_B (n : Nat) : numB (nT n) = true := by
  have ne : nT n ≠ [] := TL.numL_ne n
  have a : (nT n).any (fun c => !dg c) = false := by
    rw [List.any_eq_false]
    intro c hc
    rw [nT_dg n hc]
    decide
  unfold numB
  rw [a, decide_eq_false ne]
  by_cases h : (nT n).head? = some 48
  · have e0 := nT_head n h
    subst e0
    decide
  · rw [decide_eq_false h]
    simp
theorem nT_word (n : Nat) : wordOk (nT n) := .inr ⟨TL.numL_ne n, fun c hc => by
  have := nT_dig n hc
  unfold bl mk
  simp
  omega⟩
theorem nT_noMk (n : Nat) : isMk (nT n) = false := by
  unfold isMk
  refine decide_eq_false fun h => ?_
  have d : ∀ c ∈ nT n, 48 ≤ c ∧ c ≤ 57 := fun c hc => nT_dig n hc
  generalize nT n = w at h d
  simp at h
  rcases h with rfl | rfl | rfl | rfl | rfl | rfl <;> exact absurd (d _ (List.mem_cons_self ..)) (by decide)
theorem rd_all {l : List Nat} {ws : List (List Nat)} {row : List Int} (h : Rd (SumN 20) [[94], [42], [43], [45]] ws row) (e : tokens l = ws) (lo : low l) (hl : l.length ≤ 20000) : Reads_ l row := by
  refine ⟨hl, lo, ?_⟩
  rw [e]
  have q := h ws 0 (fun k _ => by rw [Nat.zero_add]) (by
    have z : tk ws (0 + ws.length) = [] := by
      unfold tk
      rw [Nat.zero_add, List.getD_eq_getElem?_getD, List.getElem?_eq_none (Nat.le_refl _)]
      rfl
    rw [z]
    decide)
  rwa [Nat.zero_add] at q
end
end Y
namespace Y
open PySem L2 Z M StX
section
variable {P : Program} {w : World} {K : PySem.W.Frag} {mg : Str → Option Value} {base : Heap} {a : Ad} {d : Fd}
def WSx (t : List Nat) (ws : List (List Nat)) : Prop := ∃ f r, WS t ws f r
/-- any word may stand here -/
def Opn (t : List Nat) (ws : List (List Nat)) : Prop := ∀ w, wordOk w → WSx (t ++ w) (ws ++ [w])
theorem opn_start : Opn [] [] := fun w hw => by
  have := ws_step (b := []) (ws_start (b := []) (fun _ h => nomatch h)) (fun _ h => nomatch h) hw fun _ => .inl rfl
  unfold WSx
  simpa using this
theorem wsx_mark {t w : List Nat} {ws : List (List Nat)} (S : WSx t ws) (h : isMk w = true) : WSx (t ++ w) (ws ++ [w]) := by
  obtain ⟨f, r, S⟩ := S
  have := ws_step (b := []) S (fun _ h => nomatch h) (.inl h) fun _ => .inr (.inr h)
  unfold WSx
  simpa using this
theorem opn_mark {t w : List Nat} {ws : List (List Nat)} (S : WSx t ws) (h : isMk w = true) : Opn (t ++ w) (ws ++ [w]) := fun v hv => by
  obtain ⟨f, r, S⟩ := wsx_mark S h
  have := ws_step (b := []) S (fun _ h => nomatch h) hv fun _ => .inr (.inl ⟨w, by simp, h⟩)
  unfold WSx
  simpa using this
theorem opn_blank {t b : List Nat} {ws : List (List Nat)} (S : WSx t ws) (hb : ∀ c ∈ b, bl c = true) (hn : b ≠ []) : Opn (t ++ b) ws := fun v hv => by
  obtain ⟨f, r, S⟩ := S
  exact ws_step S hb hv fun h => absurd h hn
def xW (e : Nat) : List (List Nat) := if e = 1 then [[120]] else [[120], [94], nT e]
def pwW (m e : Nat) : List (List Nat) := if e = 0 then [nT m] else if m = 1 then xW e else [nT m, [42]] ++ xW e
theorem x_word : wordOk [120] := .inr ⟨by simp, fun c hc => by
  have : c = 120 := by simpa using hc
  subst this
  decide⟩
theorem opn_x {t : List Nat} {ws : List (List Nat)} {e : Nat} (O : Opn t ws) : WSx (t ++ (if e = 1 then [120] else [120, 94] ++ nT e)) (ws ++ xW e) := by
  have h1 := O [120] x_word
  unfold xW
  split
  · exact h1
  · have h2 := opn_mark (w := [94]) h1 (by decide) (nT e) (nT_word e)
    simpa using h2
theorem opn_pow {t : List Nat} {ws : List (List Nat)} {m e : Nat} (O : Opn t ws) : WSx (t ++ powT m e) (ws ++ pwW m e) := by
  unfold powT pwW
  by_cases h0 : e = 0
  · rw [if_pos h0, if_pos h0]
    exact O _ (nT_word m)
  · rw [if_neg h0, if_neg h0]
    by_cases h1 : m = 1
    · rw [if_pos h1, if_pos h1]
      exact opn_x O
    · rw [if_neg h1, if_neg h1]
      have h2 := opn_x (e := e) (opn_mark (w := [42]) (O _ (nT_word m)) (by decide))
      simpa only [List.append_assoc, List.cons_append, List.nil_append] using h2
/-- the words of a formula's text, its top i places -/
def fW (l : List Int) : Nat → List (List Nat)
  | 0 => []
  | i + 1 => if cf l (l.length - 1 - i) = 0 then fW l i else if fG l i = [] then (if cf l (l.length - 1 - i) < 0 then [[45]] else []) ++ pwW (cf l (l.length - 1 - i)).natAbs (l.length - 1 - i)
    else fW l i ++ ([if cf l (l.length - 1 - i) < 0 then [45] else [43]] ++ pwW (cf l (l.length - 1 - i)).natAbs (l.length - 1 - i))
theorem fW_ws (l : List Int) : ∀ i, (fG l i = [] → fW l i = []) ∧ (fG l i ≠ [] → WSx (fG l i) (fW l i))
  | 0 => ⟨fun _ => rfl, fun h => absurd rfl h⟩
  | i + 1 => by
    obtain ⟨a, b⟩ := fW_ws l i
    have pn : ∀ m e, powT m e ≠ [] := fun m e h => by
      have ne : nT m ≠ [] := TL.numL_ne m
      unfold powT at h
      split at h
      · exact ne h
      · split at h
        · split at h <;> simp at h
        · simp at h
    unfold fG fW
    split
    · exact ⟨a, b⟩
    · split
      · rename_i _ h2
        refine ⟨fun h => absurd (List.append_eq_nil_iff.mp h).2 (pn _ _), fun _ => ?_⟩
        split
        · exact opn_pow (opn_mark (t := []) (ws := []) (w := [45]) ⟨_, _, ws_start (b := []) (fun _ h => nomatch h)⟩ (by decide))
        · exact opn_pow opn_start
      · rename_i _ h2
        refine ⟨fun h => absurd (List.append_eq_nil_iff.mp h).1 h2, fun _ => ?_⟩
        obtain ⟨f, r, S⟩ := b h2
        have sgn : ∀ g : List Nat, isMk g = true → WSx (fG l i ++ ([32] ++ g ++ [32] ++ powT (cf l (l.length - 1 - i)).natAbs (l.length - 1 - i))) (fW l i ++ ([g] ++ pwW (cf l (l.length - 1 - i)).natAbs (l.length - 1 - i))) := fun g hg => by
          have s1 : WSx (fG l i ++ [32] ++ g) (fW l i ++ [g]) := opn_blank (b := [32]) ⟨f, r, S⟩ (by decide) (by simp) g (.inl hg)
          have s2 := opn_pow (m := (cf l (l.length - 1 - i)).natAbs) (e := l.length - 1 - i) (opn_blank (b := [32]) s1 (by decide) (by simp))
          simpa only [List.append_assoc] using s2
        split
        · exact sgn [45] (by decide)
        · exact sgn [43] (by decide)
end
end Y
namespace Y
open PySem L2 Z M StX
section
variable {P : Program} {w : World} {K : PySem.W.Frag} {mg : Str → Option Value} {base : Heap} {a : Ad} {d : Fd}
def mono (m : Int) : Nat → List Int
  | 0 => [m]
  | e + 1 => 0 :: mono m e
theorem mono_len (m : Int) : ∀ e, (mono m e).length = e + 1
  | 0 => rfl
  | e + 1 => congrArg (· + 1) (mono_len m e)
theorem mono_bd {m : Int} {b : Nat} (h : m.natAbs < 2 ^ b) : ∀ e, Bd b (mono m e)
  | 0 => Bd.one h
  | e + 1 => fun x hx => by
    rcases List.mem_cons.mp hx with rfl | hx
    · exact Nat.two_pow_pos b
    · exact mono_bd h e x hx
theorem mono_ev (m x : Int) : ∀ e, ev (mono m e) x = m * x ^ e
  | 0 => by
    show m + x * 0 = m * x ^ 0
    rw [Int.mul_zero, Int.add_zero, Int.pow_zero, Int.mul_one]
  | e + 1 => by
    show 0 + x * ev (mono m e) x = m * x ^ (e + 1)
    rw [mono_ev m x e, Int.zero_add, Int.pow_succ, Int.mul_left_comm, Int.mul_comm x]
theorem powI_ev (b : List Int) (x : Int) : ∀ k, ev (powI b k) x = ev b x ^ k
  | 0 => by
    show 1 + x * 0 = ev b x ^ 0
    rw [Int.mul_zero, Int.add_zero, Int.pow_zero]
  | k + 1 => by
    show ev (mulI (powI b k) b) x = _
    rw [ev_mulI, powI_ev b x k, Int.pow_succ]
theorem powI_tr (b : List Int) : ∀ k, Tr (powI b k)
  | 0 => by
    show Tr [1]
    unfold Tr
    decide
  | k + 1 => tr_mulI _ _
theorem mono_cf (m : Int) : ∀ e, cf (mono m e) e = m
  | 0 => rfl
  | e + 1 => mono_cf m e
theorem mono_tr {m : Int} (h : m ≠ 0) (e : Nat) : Tr (mono m e) := tr_last (e := e + 1) (.inr ⟨by rw [mono_len]; omega, mono_len m e, by rw [Nat.add_sub_cancel, mono_cf]; exact h⟩)
theorem powI_x (k : Nat) : powI [0, 1] k = mono 1 k := tr_of_ev (powI_tr _ _) (mono_tr (by decide) k) fun x => by
  rw [powI_ev, mono_ev, Int.one_mul]
  congr 1
  show 0 + x * (1 + x * 0) = x
  rw [Int.mul_zero, Int.add_zero, Int.mul_one, Int.zero_add]
theorem mul_mono {m : Int} (h : m ≠ 0) (k : Nat) : mulI (trimI [m]) (mono 1 k) = mono m k := tr_of_ev (tr_mulI _ _) (mono_tr h k) fun x => by
  rw [ev_mulI, ev_trim, mono_ev, mono_ev, Int.one_mul]
  congr 1
  show m + x * 0 = m
  rw [Int.mul_zero, Int.add_zero]
end
end Y
namespace Y
open PySem L2 Z M StX
section
variable {P : Program} {w : World} {K : PySem.W.Frag} {mg : Str → Option Value} {base : Heap} {a : Ad} {d : Fd}
theorem okR_mono {m : Int} {e : Nat} (h : m.natAbs < 2 ^ 300) (he : e ≤ 60) : okR (mono m e) := ⟨by rw [mono_len]; omega, (mono_bd h e).mono (by unfold BB; decide)⟩
theorem trim_one {m : Int} (h : m ≠ 0) : trimI [m] = mono m 0 := by
  have t : Tr (mono m 0) := mono_tr h 0
  exact t
theorem rd_xW {D e : Nat} {S : Rel} (h0 : e ≠ 0) (he : e ≤ 60) : Rd (PowOf (AtomOf D S)) [[94]] (xW e) (mono 1 e) := by
  have okx : okR [0, 1] := okR_mono (m := 1) (e := 1) (by decide +kernel) (by decide)
  unfold xW
  by_cases h1 : e = 1
  · rw [if_pos h1]
    subst h1
    exact rd_pow0 (rd_x okx)
  · rw [if_neg h1]
    have q := rd_powk (w := nT e) (rd_x (D := D) (S := S) okx) okx (nT_B e) (TL.numL_len (by decide) (by omega)) (by rw [numV_nT]; exact he) fun k hk => by
      rw [numV_nT] at hk
      rw [powI_x]
      exact okR_mono (by decide +kernel) (by omega)
    rw [numV_nT, powI_x] at q
    exact q
theorem rd_pwW {D m e : Nat} {S : Rel} (h0 : m ≠ 0) (hm : m < 10 ^ 60) (he : e ≤ 60) : Rd (ProdOf (PowOf (AtomOf D S))) [[94], [42]] (pwW m e) (mono (m : Nat) e) := by
  have hb : ((m : Nat) : Int).natAbs < 2 ^ 300 := Nat.lt_of_lt_of_le (by simpa using hm) (by decide +kernel)
  have hn : ((m : Nat) : Int) ≠ 0 := by omega
  have ok0 : okR (mono (m : Nat) 0) := okR_mono hb (Nat.zero_le _)
  have num : Rd (AtomOf D S) [] [nT m] (mono (m : Nat) 0) := by
    have q := rd_num (D := D) (S := S) (w := nT m) (nT_B m) (TL.numL_len (by decide) hm) (by rw [numV_nT, trim_one hn]; exact ok0)
    rw [numV_nT, trim_one hn] at q
    exact q
  unfold pwW
  by_cases e0 : e = 0
  · rw [if_pos e0]
    subst e0
    exact rdP_end (rdP_one (rd_pow0 num))
  · rw [if_neg e0]
    by_cases m1 : m = 1
    · rw [if_pos m1]
      subst m1
      exact rdP_end (rdP_one (rd_xW e0 he))
    · rw [if_neg m1]
      have mm : mulI (mono (m : Nat) 0) (mono 1 e) = mono (m : Nat) e := by rw [← trim_one hn, mul_mono hn]
      have q := rdP_end (rdP_snoc (ws := [nT m]) (rdP_one (rd_pow0 num)) (rd_xW e0 he) ok0 (okR_mono (by decide +kernel) he) (by rw [mm]; exact okR_mono hb he))
      rw [mm] at q
      exact q
end
end Y
namespace Y
open PySem L2 Z M StX
section
variable {P : Program} {w : World} {K : PySem.W.Frag} {mg : Str → Option Value} {base : Heap} {a : Ad} {d : Fd}
theorem cf_mono (m : Int) : ∀ e k, cf (mono m e) k = if k = e then m else 0
  | 0, 0 => rfl
  | 0, k + 1 => by
    rw [if_neg (by omega)]
    show cf (m :: []) (k + 1) = 0
    rw [cf_succ, cf_nil]
  | e + 1, 0 => by rw [if_neg (by omega)]; rfl
  | e + 1, k + 1 => by
    show cf (0 :: mono m e) (k + 1) = _
    rw [cf_succ, cf_mono m e k]
    by_cases h : k = e
    · rw [if_pos h, if_pos (by omega)]
    · rw [if_neg h, if_neg (by omega)]
/-- the low n places made zero -/
def lowZ : Nat → List Int → List Int
  | 0, l => l
  | _, [] => []
  | n + 1, _ :: l => 0 :: lowZ n l
theorem lowZ_len : ∀ n l, (lowZ n l).length = l.length
  | 0, l => by unfold lowZ; rfl
  | n + 1, [] => by unfold lowZ; rfl
  | n + 1, c :: l => by
    unfold lowZ
    exact congrArg (· + 1) (lowZ_len n l)
theorem lowZ_cf : ∀ n l k, cf (lowZ n l) k = if k < n then 0 else cf l k
  | 0, l, k => by
    rw [if_neg (Nat.not_lt_zero _)]
    unfold lowZ
    rfl
  | n + 1, [], k => by
    unfold lowZ
    rw [cf_nil]
    split <;> rfl
  | n + 1, c :: l, 0 => by
    rw [if_pos (Nat.succ_pos _)]
    unfold lowZ
    rfl
  | n + 1, c :: l, k + 1 => by
    unfold lowZ
    rw [cf_succ, cf_succ, lowZ_cf n l k]
    by_cases h : k < n
    · rw [if_pos h, if_pos (by omega)]
    · rw [if_neg h, if_neg (by omega)]
theorem lowZ_step {l : List Int} {n : Nat} {z m : Int} (hz : cf l n = z * m) : addI (trimI (lowZ (n + 1) l)) (mono m n) z = trimI (lowZ n l) := trim_ext fun k => by
  rw [cf_addRaw, cf_trim, lowZ_cf, lowZ_cf, cf_mono]
  by_cases h : k = n
  · subst h
    rw [if_pos (by omega), if_pos rfl, if_neg (by omega), hz, Int.zero_add]
  · rw [if_neg h, Int.mul_zero, Int.add_zero]
    by_cases h2 : k < n
    · rw [if_pos (by omega), if_pos h2]
    · rw [if_neg (by omega), if_neg h2]
theorem lowZ_same {l : List Int} {n : Nat} (hz : cf l n = 0) : trimI (lowZ (n + 1) l) = trimI (lowZ n l) := trim_ext fun k => by
  rw [lowZ_cf, lowZ_cf]
  by_cases h : k = n
  · subst h
    rw [if_pos (by omega), if_neg (by omega), hz]
  · by_cases h2 : k < n
    · rw [if_pos (by omega), if_pos h2]
    · rw [if_neg (by omega), if_neg h2]
end
end Y
namespace Y
open PySem L2 Z M StX
section
variable {P : Program} {w : World} {K : PySem.W.Frag} {mg : Str → Option Value} {base : Heap} {a : Ad} {d : Fd}
theorem pwW_head (m e : Nat) : 0 < (pwW m e).length ∧ tk (pwW m e) 0 ≠ [45] := by
  have n : nT m ≠ [45] := fun h => by
    have := nT_noMk m
    rw [h] at this
    exact absurd this (by decide)
  unfold pwW xW
  split
  · exact ⟨Nat.succ_pos _, n⟩
  · split
    · have q : ([120] : List Nat) ≠ [45] := by decide
      split <;> exact ⟨Nat.succ_pos _, q⟩
    · exact ⟨Nat.succ_pos _, n⟩
theorem okR_low {l : List Int} (hl : l.length ≤ 61) (hb : ∀ z ∈ l, z.natAbs < 10 ^ 60) (n : Nat) : okR (trimI (lowZ n l)) := by
  have b : Bd 300 (lowZ n l) := fun x hx => by
    obtain ⟨k, hk, e⟩ := List.mem_iff_getElem.mp hx
    have e1 := cf_of_lt hk
    rw [List.getElem?_eq_getElem hk, e, lowZ_cf] at e1
    have e2 : x = if k < n then 0 else cf l k := Option.some.inj e1
    rw [e2]
    split
    · exact Nat.two_pow_pos _
    · rw [lowZ_len] at hk
      have m : cf l k ∈ l := List.mem_of_getElem? (cf_of_lt hk)
      exact Nat.lt_of_lt_of_le (hb _ m) (by decide +kernel)
  exact ⟨Nat.le_trans (trim_len _) (by rw [lowZ_len]; exact hl), b.trim.mono (by unfold BB; decide)⟩
theorem fW_rd {D : Nat} {S : Rel} {l : List Int} (hl : l.length ≤ 61) (hb : ∀ z ∈ l, z.natAbs < 10 ^ 60) : ∀ i, i ≤ l.length → (fG l i = [] → trimI (lowZ (l.length - i) l) = []) ∧ (fG l i ≠ [] → RdS (ProdOf (PowOf (AtomOf D S))) (fW l i) (trimI (lowZ (l.length - i) l)))
  | 0, _ => ⟨fun _ => by
    have : trimI (lowZ (l.length - 0) l) = trimI [] := trim_ext fun k => by
      rw [lowZ_cf, cf_nil]
      by_cases h : k < l.length - 0
      · rw [if_pos h]
      · rw [if_neg h, cf_ge (by omega)]
    exact this, fun h => absurd rfl h⟩
  | i + 1, h => by
    obtain ⟨a, b⟩ := fW_rd (D := D) (S := S) hl hb i (by omega)
    have o := okR_low hl hb (l.length - i)
    have en : l.length - i = (l.length - 1 - i) + 1 := by omega
    have e2 : l.length - (i + 1) = l.length - 1 - i := by omega
    have hm : cf l (l.length - 1 - i) ∈ l := List.mem_of_getElem? (cf_of_lt (by omega))
    have zb := hb _ hm
    have he : l.length - 1 - i ≤ 60 := by omega
    rw [e2]
    rw [en] at a b o
    have pn : ∀ m e, powT m e ≠ [] := fun m e h => by
      have ne : nT m ≠ [] := TL.numL_ne m
      unfold powT at h
      split at h
      · exact ne h
      · split at h
        · split at h <;> simp at h
        · simp at h
    unfold fG fW
    generalize l.length - 1 - i = n at *
    by_cases hz : cf l n = 0
    · rw [if_pos hz, if_pos hz, ← lowZ_same hz]
      exact ⟨a, b⟩
    · rw [if_neg hz, if_neg hz]
      have rp := rd_pwW (D := D) (S := S) (m := (cf l n).natAbs) (e := n) (by omega) zb he
      have om : okR (mono ((cf l n).natAbs : Nat) n) := okR_mono (Nat.lt_of_lt_of_le (by simpa using zb) (by decide +kernel)) he
      have hd := pwW_head (cf l n).natAbs n
      by_cases hg : fG l i = []
      · rw [if_pos hg, if_pos hg]
        refine ⟨fun h => absurd (List.append_eq_nil_iff.mp h).2 (pn _ _), fun _ => ?_⟩
        have a := a hg
        by_cases hn : cf l n < 0
        · rw [if_pos hn, ← lowZ_step (l := l) (n := n) (z := -1) (m := ((cf l n).natAbs : Nat)) (by omega), a]
          exact rdS_neg rp om
        · rw [if_neg hn, ← lowZ_step (l := l) (n := n) (z := 1) (m := ((cf l n).natAbs : Nat)) (by omega), a]
          exact rdS_one rp om hd.1 hd.2
      · rw [if_neg hg, if_neg hg]
        refine ⟨fun h => absurd (List.append_eq_nil_iff.mp h).1 hg, fun _ => ?_⟩
        have b := b hg
        by_cases hn : cf l n < 0
        · rw [if_pos hn, ← lowZ_step (l := l) (n := n) (z := -1) (m := ((cf l n).natAbs : Nat)) (by omega)]
          exact rdS_snoc (.inr ⟨rfl, rfl⟩) b rp o om
        · rw [if_neg hn, ← lowZ_step (l := l) (n := n) (z := 1) (m := ((cf l n).natAbs : Nat)) (by omega)]
          exact rdS_snoc (.inl ⟨rfl, rfl⟩) b rp o om
end
end Y
namespace Y
open PySem L2 Z M StX
section
variable {P : Program} {w : World} {K : PySem.W.Frag} {mg : Str → Option Value} {base : Heap} {a : Ad} {d : Fd}
def formW (l : List Int) : List (List Nat) := if trimI l = [] then [[48]] else fW (trimI l) (trimI l).length
theorem form_ne {l : List Int} (hl : l.length ≤ 61) (hb : ∀ z ∈ l, z.natAbs < 10 ^ 60) (h : trimI l ≠ []) : fG (trimI l) (trimI l).length ≠ [] := fun e => h (by
  have q := (fW_rd (D := 0) (S := SumN 19) (l := trimI l) (Nat.le_trans (trim_len _) hl) (fun z hz => hb z (trim_mem hz)) (trimI l).length (Nat.le_refl _)).1 e
  rw [Nat.sub_self] at q
  unfold lowZ at q
  rwa [trim_trim] at q)
theorem formW_rd {l : List Int} (hl : l.length ≤ 61) (hb : ∀ z ∈ l, z.natAbs < 10 ^ 60) : Rd (SumN 20) [[94], [42], [43], [45]] (formW l) (trimI l) := by
  show Rd (SumOf (ProdOf (PowOf (AtomOf 0 (SumN 19))))) _ _ _
  unfold formW
  by_cases h : trimI l = []
  · rw [if_pos h, h]
    have ok : okR [] := ⟨by decide, Bd.nil⟩
    have q := rd_num (D := 0) (S := SumN 19) (w := [48]) (by decide) (by decide) (by exact ok)
    have q2 : Rd (AtomOf 0 (SumN 19)) [] [[48]] [] := q
    exact rdS_end (rdS_one (rdP_end (rdP_one (rd_pow0 q2))) ok (by decide) (by decide))
  · rw [if_neg h]
    have q := (fW_rd (D := 0) (S := SumN 19) (l := trimI l) (Nat.le_trans (trim_len _) hl) (fun z hz => hb z (trim_mem hz)) (trimI l).length (Nat.le_refl _)).2 (form_ne hl hb h)
    rw [Nat.sub_self] at q
    unfold lowZ at q
    rw [trim_trim] at q
    exact rdS_end q
theorem formT_tokens {l : List Int} (hl : l.length ≤ 61) (hb : ∀ z ∈ l, z.natAbs < 10 ^ 60) : tokens (formT l) = formW l := by
  unfold formT formW
  by_cases h : trimI l = []
  · rw [if_pos h, if_pos h]
    decide
  · rw [if_neg h, if_neg h]
    obtain ⟨f, r, S⟩ := (fW_ws (trimI l) (trimI l).length).2 (form_ne hl hb h)
    have := ws_end (b := []) S (fun _ h => nomatch h)
    rwa [List.append_nil] at this
end
end Y
namespace Y
open PySem L2 Z M StX
section
variable {P : Program} {w : World} {K : PySem.W.Frag} {mg : Str → Option Value} {base : Heap} {a : Ad} {d : Fd}
def wt (ws : List (List Nat)) : Nat := (ws.map List.length).sum + 2 * ws.length
theorem wt_app (a b : List (List Nat)) : wt (a ++ b) = wt a + wt b := by
  unfold wt
  rw [List.map_append, List.sum_append, List.length_append]
  omega
def allOk (ws : List (List Nat)) : Prop := ∀ w ∈ ws, wordOk w ∧ low w
theorem allOk_app {a b : List (List Nat)} (h1 : allOk a) (h2 : allOk b) : allOk (a ++ b) := fun w h => (List.mem_append.mp h).elim (h1 w) (h2 w)
theorem allOk_one {w : List Nat} (h : wordOk w) (l : low w) : allOk [w] := fun v hv => by
  rw [List.mem_singleton.mp hv]
  exact ⟨h, l⟩
theorem xW_ok {e : Nat} (he : e ≤ 60) : allOk (xW e) ∧ wt (xW e) ≤ 10 := by
  have lx : low [120] := low_one (by decide)
  have le : (nT e).length ≤ 2 := TL.numL_len (by decide) (by omega)
  unfold xW
  split
  · exact ⟨allOk_one x_word lx, by decide⟩
  · refine ⟨allOk_app (a := [[120]]) (allOk_one x_word lx) (allOk_app (a := [[94]]) (allOk_one (.inl (by decide)) (low_one (by decide))) (allOk_one (nT_word e) (nT_low e))), ?_⟩
    unfold wt
    simp
    omega
theorem pwW_ok {m e : Nat} (hm : m < 10 ^ 60) (he : e ≤ 60) : allOk (pwW m e) ∧ wt (pwW m e) ≤ 75 := by
  have lm : (nT m).length ≤ 60 := TL.numL_len (by decide) hm
  obtain ⟨x1, x2⟩ := xW_ok he
  have n := allOk_one (nT_word m) (nT_low m)
  have s : allOk [[42]] := allOk_one (.inl (by decide)) (low_one (by decide))
  have wn : wt [nT m] ≤ 62 := by
    unfold wt
    simp
    omega
  have w4 : wt [[42]] = 3 := by decide
  unfold pwW
  split
  · exact ⟨n, by omega⟩
  · split
    · exact ⟨x1, by omega⟩
    · have e1 : [nT m, [42]] ++ xW e = [nT m] ++ ([[42]] ++ xW e) := rfl
      rw [e1, wt_app, wt_app]
      exact ⟨allOk_app n (allOk_app s x1), by omega⟩
end
end Y
namespace Y
open PySem L2 Z M StX
section
variable {P : Program} {w : World} {K : PySem.W.Frag} {mg : Str → Option Value} {base : Heap} {a : Ad} {d : Fd}
theorem fW_ok {l : List Int} (hl : l.length ≤ 61) (hb : ∀ z ∈ l, z.natAbs < 10 ^ 60) : ∀ i, i ≤ l.length → allOk (fW l i) ∧ wt (fW l i) ≤ 78 * i
  | 0, _ => ⟨(fun _ h => nomatch h), Nat.le_refl _⟩
  | i + 1, h => by
    obtain ⟨a, b⟩ := fW_ok hl hb i (by omega)
    have hm : cf l (l.length - 1 - i) ∈ l := List.mem_of_getElem? (cf_of_lt (by omega))
    obtain ⟨p1, p2⟩ := pwW_ok (e := l.length - 1 - i) (hb _ hm) (by omega)
    have s1 : allOk [[45]] := allOk_one (.inl (by decide)) (low_one (by decide))
    have s2 : allOk [[43]] := allOk_one (.inl (by decide)) (low_one (by decide))
    have w1 : wt [[45]] = 3 := by decide
    have w2 : wt [[43]] = 3 := by decide
    have w0 : wt [] = 0 := by decide
    unfold fW
    split
    · exact ⟨a, by omega⟩
    · split
      · rw [wt_app]
        split
        · exact ⟨allOk_app s1 p1, by omega⟩
        · exact ⟨allOk_app (fun _ h => nomatch h) p1, by omega⟩
      · rw [wt_app, wt_app]
        split
        · exact ⟨allOk_app a (allOk_app s1 p1), by omega⟩
        · exact ⟨allOk_app a (allOk_app s2 p1), by omega⟩
theorem formW_ok {l : List Int} (hl : l.length ≤ 61) (hb : ∀ z ∈ l, z.natAbs < 10 ^ 60) : WOK (formW l) := by
  have q : allOk (formW l) ∧ wt (formW l) ≤ 4758 := by
    unfold formW
    split
    · exact ⟨allOk_one (.inr ⟨by simp, by decide⟩) (low_one (by decide)), by decide⟩
    · have t := trim_len l
      obtain ⟨a, b⟩ := fW_ok (l := trimI l) (Nat.le_trans t hl) (fun z hz => hb z (trim_mem hz)) (trimI l).length (Nat.le_refl _)
      exact ⟨a, by omega⟩
  obtain ⟨a, b⟩ := q
  unfold wt at b
  exact ⟨a, by omega⟩
end
end Y
namespace Y
open PySem L2 Z M StX
section
variable {P : Program} {w : World} {K : PySem.W.Frag} {mg : Str → Option Value} {base : Heap} {a : Ad} {d : Fd}
theorem one_mulI {p : List Int} (h : Tr p) : mulI [1] p = p := tr_of_ev (tr_mulI _ _) h fun x => by
  rw [ev_mulI]
  show (1 + x * 0) * _ = _
  rw [Int.mul_zero, Int.add_zero, Int.one_mul]
theorem mulI_one {p : List Int} (h : Tr p) : mulI p [1] = p := tr_of_ev (tr_mulI _ _) h fun x => by
  rw [ev_mulI]
  show _ * (1 + x * 0) = _
  rw [Int.mul_zero, Int.add_zero, Int.mul_one]
theorem powI_len {b : List Int} (hb : b ≠ []) : ∀ k, (powI b k).length ≤ (b.length - 1) * k + 1
  | 0 => by
    show 1 ≤ _
    omega
  | k + 1 => by
    have ih := powI_len hb k
    show (mulI (powI b k) b).length ≤ _
    have e : (b.length - 1) * (k + 1) = (b.length - 1) * k + (b.length - 1) := Nat.mul_succ _ _
    by_cases h : powI b k = []
    · rw [h, mulI_nil_left]
      simp
    · have h1 := len_mulI h hb
      have h2 := List.length_pos_iff.mpr hb
      omega
theorem powI_nil : ∀ k, (powI [] k).length ≤ 1
  | 0 => Nat.le_refl _
  | k + 1 => by
    show (mulI (powI [] k) []).length ≤ 1
    rw [mulI_nil_of (.inr rfl)]
    exact Nat.zero_le _
theorem powI_le {b : List Int} {n k : Nat} (h : (b.length - 1) * n ≤ 40) (hk : k ≤ n) : (powI b k).length ≤ 41 := by
  by_cases hb : b = []
  · rw [hb]
    exact Nat.le_trans (powI_nil k) (by decide)
  · have h1 := powI_len hb k
    have h2 : (b.length - 1) * k ≤ (b.length - 1) * n := Nat.mul_le_mul_left _ hk
    omega
theorem powI_bd {b : List Int} {la n : Nat} (h : Bd la b) (hl : ∀ k, k ≤ n → (powI b k).length ≤ 41) : ∀ k, k ≤ n → Bd (1 + k * (la + 41)) (powI b k)
  | 0, _ => (Bd.one (b := 1) (by decide)).mono (Nat.le_add_right _ _)
  | k + 1, hk => (Bd.mulI (powI_bd h hl k (by omega)) h).mono (by
      have h1 := hl k (by omega)
      have e : (k + 1) * (la + 41) = k * (la + 41) + (la + 41) := Nat.succ_mul _ _
      omega)
/-- digits bound a number -/
theorem nT_lt : ∀ n, n < 10 ^ (nT n).length := fun n => by
  induction n using Nat.strongRecOn with
  | ind n ih =>
    by_cases h10 : n < 10
    · have e : nT n = [48 + n] := TL.numL_lt h10
      rw [e]
      simpa using h10
    · have e : nT n = nT (n / 10) ++ [48 + n % 10] := TL.numL_step (by omega)
      have h1 := ih (n / 10) (by omega)
      rw [e, List.length_append, List.length_singleton, Nat.pow_succ]
      omega
theorem ten_bits (k : Nat) : 10 ^ k ≤ 2 ^ (4 * k) := by
  rw [Nat.pow_mul]
  exact Nat.pow_le_pow_left (by decide) k
theorem bd_longest {b : List Int} {n : Nat} (h : (max 1 (mxA b)) = (n : Nat)) : Bd (4 * (nT n).length) b := fun x hx => by
  have h1 := mxA_bd hx
  have h2 : x.natAbs ≤ n := by omega
  exact Nat.lt_of_le_of_lt h2 (Nat.lt_of_lt_of_le (nT_lt n) (ten_bits _))
theorem bdBB {b : Nat} {l : List Int} (h : Bd b l) (k : b ≤ 30000) : Bd BB l := h.mono (Nat.le_trans k (by unfold BB; decide))
abbrev RA (D : Nat) : Rel := AtomOf D (SumN (19 - D))
theorem sumN_at {D : Nat} (h : D < 20) : SumN (20 - D) = SumOf (ProdOf (PowOf (RA D))) := by
  have e : 20 - D = (19 - D) + 1 := by omega
  rw [e]
  show SumOf (ProdOf (PowOf (AtomOf (20 - (19 - D + 1)) (SumN (19 - D))))) = _
  have e2 : 20 - (19 - D + 1) = D := by omega
  rw [e2]
structure DrOk (R : Rel) (bad : List (List Nat)) (b wm : Nat) (ws : List (List Nat)) (row : List Int) : Prop where
  rd : Rd R bad ws row
  bd : Bd b row
  len : row.length ≤ 60
  tr : Tr row
  all : allOk ws
  wt : wt ws ≤ wm
theorem DrOk.okR {R : Rel} {bad : List (List Nat)} {b wm : Nat} {ws : List (List Nat)} {row : List Int} (h : DrOk R bad b wm ws row) (hb : b ≤ 30000) : okR row := ⟨Nat.le_trans h.len (by decide), bdBB h.bd hb⟩
def hdOk (ws : List (List Nat)) : Prop := 0 < ws.length ∧ tk ws 0 ≠ [45]
theorem hdOk_app {a : List (List Nat)} (b : List (List Nat)) (h : hdOk a) : hdOk (a ++ b) := ⟨by rw [List.length_append]; have := h.1; omega, by rw [tk_app1 a b h.1]; exact h.2⟩
def fN (D : Nat) : Nat := if D = 0 then 3 else 2
def sN (D : Nat) : Nat := if D = 0 then 4 else 1
def bA : Nat → Nat
  | 0 => 7400
  | 1 => 3600
  | _ => 200
def bF : Nat → Nat
  | 0 => 7400
  | 1 => 3600
  | _ => 1700
def wA : Nat → Nat
  | 0 => 1300
  | 1 => 310
  | _ => 62
def bP (D : Nat) : Nat := 1 + fN D * (bF D + 60)
def bS (D : Nat) : Nat := bP D + 2 * (sN D + 2)
def wP (D : Nat) : Nat := fN D * (wA D + 10)
def wS (D : Nat) : Nat := 3 + (sN D + 1) * (wP D + 3)
theorem bnds {D : Nat} (h : D ≤ 2) : bA D ≤ bF D ∧ 1700 ≤ bF D ∧ bF D ≤ 7400 ∧ 200 ≤ bA D ∧ bP D ≤ 25000 ∧ bS D ≤ 25000 ∧ 62 ≤ wA D ∧ wS D ≤ 19990 ∧ fN D ≤ 3 ∧ 2 ≤ fN D ∧ bP D = 1 + fN D * (bF D + 60) ∧ wP D = fN D * (wA D + 10) ∧ (D < 2 → wS (D + 1) + 6 ≤ wA D ∧ bS (D + 1) ≤ bA D ∧ sN (D + 1) = 1) := by
  match D, h with
  | 0, _ => decide
  | 1, _ => decide
  | 2, _ => decide
abbrev AtQ (D : Nat) (ws : List (List Nat)) (row : List Int) : Prop := DrOk (RA D) [] (bA D) (wA D) ws row ∧ hdOk ws
abbrev PrQ (D : Nat) (ws : List (List Nat)) (row : List Int) : Prop := DrOk (ProdOf (PowOf (RA D))) [[94], [42]] (bP D) (wP D) ws row ∧ hdOk ws
abbrev SuQ (D : Nat) (ws : List (List Nat)) (row : List Int) : Prop := DrOk (SumN (20 - D)) [[94], [42], [43], [45]] (bS D) (wS D) ws row
theorem bd_x : Bd 2 [0, 1] := fun z hz => by
  simp at hz
  rcases hz with rfl | rfl <;> decide
theorem at_x {D : Nat} (h : D ≤ 2) : AtQ D [[120]] [0, 1] := by
  have b := bnds h
  refine ⟨⟨rd_x ⟨by decide, bdBB bd_x (by decide)⟩, bd_x.mono (by omega), by decide, by unfold Tr; decide, allOk_one x_word (low_one (by decide)), ?_⟩, by decide, by decide⟩
  have e : wt [[120]] = 3 := by decide
  omega
theorem at_num {D n : Nat} (h : D ≤ 2) (hn : n < 10 ^ 59) : AtQ D [nT n] (trimI [(n : Int)]) := by
  have b := bnds h
  have hb : Bd 200 (trimI [(n : Int)]) := Bd.trim (Bd.one (Nat.lt_of_lt_of_le (by simpa using hn) (by decide +kernel)))
  have tl : (trimI [(n : Int)]).length ≤ 1 := trim_len _
  have nl : (nT n).length ≤ 59 := TL.numL_len (by decide) hn
  have q := rd_num (D := D) (S := SumN (19 - D)) (nT_B n) (by omega) (by rw [numV_nT]; exact ⟨by omega, bdBB hb (by decide)⟩)
  rw [numV_nT] at q
  refine ⟨⟨q, hb.mono (by omega), by omega, tr_trim _, allOk_one (nT_word n) (nT_low n), ?_⟩, Nat.zero_lt_one, fun e => ?_⟩
  · unfold wt
    simp
    omega
  · have := nT_noMk n
    have e : nT n = [45] := e
    rw [e] at this
    exact absurd this (by decide)
theorem at_br {D : Nat} (h : D < 2) {ws : List (List Nat)} {row : List Int} (q : SuQ (D + 1) ws row) : AtQ D ([[40]] ++ ws ++ [[41]]) row := by
  have b := bnds (Nat.le_of_lt h)
  have b1 := bnds (D := D + 1) (by omega)
  have b2 := b.2.2.2.2.2.2.2.2.2.2.2.2 h
  have e : 20 - (D + 1) = 19 - D := by omega
  have rd : Rd (SumN (19 - D)) [[94], [42], [43], [45]] ws row := e ▸ q.rd
  have ew : [[40]] ++ ws ++ [[41]] = [40] :: (ws ++ [[41]]) := by simp
  refine ⟨⟨?_, q.bd.mono b2.2.1, q.len, q.tr, allOk_app (allOk_app (allOk_one (.inl (by decide)) (low_one (by decide))) q.all) (allOk_one (.inl (by decide)) (low_one (by decide))), ?_⟩, ?_⟩
  · rw [ew]
    exact rd_br (by omega) rd (q.okR (by omega))
  · rw [wt_app, wt_app]
    have := q.wt
    have e1 : wt [[40]] = 3 := by decide
    have e2 : wt [[41]] = 3 := by decide
    omega
  · rw [ew]
    exact ⟨Nat.succ_pos _, by show ([40] : List Nat) ≠ [45]; decide⟩
def FcOk (D : Nat) (ws : List (List Nat)) (p : List Int) : Prop := DrOk (PowOf (RA D)) [[94]] (bF D) (wA D + 7) ws p ∧ hdOk ws
def pwS : Option Nat → List (List Nat)
  | none => []
  | some n => [[94], nT n]
def pwR (b : List Int) : Option Nat → List Int
  | none => b
  | some n => powI b n
theorem fc_of {D : Nat} (h : D ≤ 2) {ws : List (List Nat)} {b : List Int} (q : AtQ D ws b) {o : Option Nat} (ho : ∀ n, o = some n → n ≤ 19 ∧ (b.length - 1) * n ≤ 40 ∧ ∃ la, Bd (4 * la) b ∧ la * n ≤ 200) : FcOk D (ws ++ pwS o) (pwR b o) := by
  have bb := bnds h
  obtain ⟨q, hd⟩ := q
  cases o with
  | none =>
    have e : ws ++ pwS none = ws := List.append_nil _
    rw [e]
    exact ⟨⟨rd_pow0 q.rd, q.bd.mono bb.1, q.len, q.tr, q.all, by have := q.wt; omega⟩, hd⟩
  | some n =>
    obtain ⟨h1, h2, la, h3, h4⟩ := ho n rfl
    have ln : ∀ k, k ≤ n → (powI b k).length ≤ 41 := fun k hk => powI_le h2 hk
    have bd : ∀ k, k ≤ n → Bd 1700 (powI b k) := fun k hk => (powI_bd h3 ln k hk).mono (by
      have e1 : k * (4 * la + 41) = 4 * (la * k) + 41 * k := by
        rw [Nat.mul_add, Nat.mul_comm k (4 * la), Nat.mul_assoc, Nat.mul_comm k 41]
      have e2 : la * k ≤ la * n := Nat.mul_le_mul_left _ hk
      omega)
    have okp : ∀ k, k ≤ n → okR (powI b k) := fun k hk => ⟨Nat.le_trans (ln k hk) (by decide), bdBB (bd k hk) (by decide)⟩
    have nl : (nT n).length ≤ 2 := TL.numL_len (by decide) (by omega)
    have r := rd_powk (w := nT n) q.rd (q.okR (by omega)) (nT_B n) nl (by rw [numV_nT]; omega) (by rw [numV_nT]; exact okp)
    rw [numV_nT] at r
    refine ⟨⟨r, (bd n (Nat.le_refl _)).mono bb.2.1, Nat.le_trans (ln n (Nat.le_refl _)) (by decide), powI_tr _ _, allOk_app q.all (allOk_app (a := [[94]]) (allOk_one (.inl (by decide)) (low_one (by decide))) (allOk_one (nT_word n) (nT_low n))), ?_⟩, hdOk_app _ hd⟩
    rw [wt_app]
    have w1 := q.wt
    have w2 : wt (pwS (some n)) ≤ 7 := by
      unfold wt pwS
      simp
      omega
    omega
theorem fc_one {D : Nat} (h : D ≤ 2) : FcOk D ([[49]] ++ pwS none) [1] := by
  have bb := bnds h
  have e : [[49]] ++ pwS none = [[49]] := rfl
  rw [e]
  have q := at_num (D := D) (n := 1) h (by decide)
  have e2 : nT 1 = [49] := by decide
  rw [e2] at q
  have q : AtQ D [[49]] [1] := q
  exact ⟨⟨rd_pow0 q.1.rd, q.1.bd.mono bb.1, q.1.len, q.1.tr, q.1.all, by have := q.1.wt; omega⟩, q.2⟩
/-- behind i factors -/
def PrI (D i : Nat) (ws : List (List Nat)) (row : List Int) : Prop := (i = 0 ∧ ws = [] ∧ row = [1]) ∨ (0 < i ∧ RdP (PowOf (RA D)) ws row ∧ Bd (1 + i * (bF D + 60)) row ∧ row.length ≤ 60 ∧ Tr row ∧ allOk ws ∧ wt ws ≤ i * (wA D + 10) ∧ hdOk ws)
theorem PrI.len {D i : Nat} {ws : List (List Nat)} {row : List Int} (h : PrI D i ws row) : row.length ≤ 60 := by
  rcases h with ⟨_, _, e⟩ | h
  · rw [e]; decide
  · exact h.2.2.2.1
theorem PrI.bd {D i : Nat} {ws : List (List Nat)} {row : List Int} (h : PrI D i ws row) : Bd (1 + i * (bF D + 60)) row := by
  rcases h with ⟨_, _, e⟩ | h
  · rw [e]
    exact Bd.one (Nat.lt_of_lt_of_le (by decide) (Nat.pow_le_pow_right (by decide) (Nat.le_add_right 1 _)))
  · exact h.2.2.1
theorem PrI.tr {D i : Nat} {ws : List (List Nat)} {row : List Int} (h : PrI D i ws row) : Tr row := by
  rcases h with ⟨_, _, e⟩ | h
  · rw [e]
    unfold Tr
    decide
  · exact h.2.2.2.2.1
theorem PrI.all {D i : Nat} {ws : List (List Nat)} {row : List Int} (h : PrI D i ws row) : allOk ws := by
  rcases h with ⟨_, e, _⟩ | h
  · rw [e]
    exact fun _ h => nomatch h
  · exact h.2.2.2.2.2.1
theorem PrI.wt {D i : Nat} {ws : List (List Nat)} {row : List Int} (h : PrI D i ws row) : wt ws ≤ i * (wA D + 10) := by
  rcases h with ⟨_, e, _⟩ | h
  · rw [e]
    exact Nat.zero_le _
  · exact h.2.2.2.2.2.2.1
theorem pr_bits {D i : Nat} (h : D ≤ 2) (hi : i ≤ fN D) : 1 + i * (bF D + 60) ≤ 30000 := by
  have b := bnds h
  have e : i * (bF D + 60) ≤ fN D * (bF D + 60) := Nat.mul_le_mul_right _ hi
  omega
theorem pr_step {D i : Nat} (h : D ≤ 2) (hi : i < fN D) {ws w : List (List Nat)} {row p : List Int} (q : PrI D i ws row) (f : FcOk D w p) (hl : (mulI row p).length ≤ 60) : PrI D (i + 1) (ws ++ (if ws = [] then [] else [[42]]) ++ w) (mulI row p) := by
  have bb := bnds h
  obtain ⟨f, hd⟩ := f
  have b1 : Bd (1 + (i + 1) * (bF D + 60)) (mulI row p) := (Bd.mulI q.bd f.bd).mono (by
    have := q.len
    have e : (i + 1) * (bF D + 60) = i * (bF D + 60) + (bF D + 60) := Nat.succ_mul _ _
    omega)
  have okm : okR (mulI row p) := ⟨Nat.le_trans hl (by decide), bdBB b1 (pr_bits h (by omega))⟩
  have fw := f.wt
  have qw := q.wt
  have e : (i + 1) * (wA D + 10) = i * (wA D + 10) + (wA D + 10) := Nat.succ_mul _ _
  rcases q with ⟨rfl, rfl, rfl⟩ | ⟨h0, r, rb, rl, rt, ra, rw', rh⟩
  · rw [if_pos rfl, List.nil_append, List.nil_append]
    refine .inr ⟨by omega, ?_, b1, hl, tr_mulI _ _, f.all, by omega, hd⟩
    rw [one_mulI f.tr]
    exact rdP_one f.rd
  · have ne : ws ≠ [] := fun e => by
      have := rh.1
      rw [e] at this
      exact absurd this (by decide)
    rw [if_neg ne]
    have ew : ws ++ [[42]] ++ w = ws ++ [42] :: w := by simp
    refine .inr ⟨by omega, ?_, b1, hl, tr_mulI _ _, allOk_app (allOk_app ra (allOk_one (.inl (by decide)) (low_one (by decide)))) f.all, ?_, ?_⟩
    · rw [ew]
      exact rdP_snoc r f.rd ⟨Nat.le_trans rl (by decide), bdBB rb (pr_bits h (by omega))⟩ (f.okR (by omega)) okm
    · rw [wt_app, wt_app]
      have e1 : Y.wt [[42]] = 3 := by decide
      omega
    · rw [List.append_assoc]
      exact hdOk_app _ rh
theorem pr_end {D i : Nat} (h : D ≤ 2) (h0 : 0 < i) (hi : i ≤ fN D) {ws : List (List Nat)} {row : List Int} (q : PrI D i ws row) : PrQ D ws row := by
  have bb := bnds h
  have e1 : i * (bF D + 60) ≤ fN D * (bF D + 60) := Nat.mul_le_mul_right _ hi
  have e2 : i * (wA D + 10) ≤ fN D * (wA D + 10) := Nat.mul_le_mul_right _ hi
  rcases q with ⟨rfl, _⟩ | ⟨_, r, rb, rl, rt, ra, rw', rh⟩
  · exact absurd h0 (by decide)
  · exact ⟨⟨rdP_end r, rb.mono (by omega), rl, rt, ra, by omega⟩, rh⟩
/-- behind i further products -/
structure SuI (D i : Nat) (ws : List (List Nat)) (row : List Int) : Prop where
  rd : RdS (ProdOf (PowOf (RA D))) ws row
  bd : Bd (bP D + 2 + 2 * i) row
  len : row.length ≤ 60
  tr : Tr row
  all : allOk ws
  wt : wt ws ≤ 3 + (i + 1) * (wP D + 3)
theorem sg_bd {s : Int} (h : s = 1 ∨ s = -1) : s.natAbs < 2 ^ 1 := by
  rcases h with rfl | rfl <;> decide
theorem add_one {p : List Int} (h : Tr p) : addI [] p 1 = p := tr_of_ev (tr_addI _ _ _) h fun x => by
  rw [ev_addI]
  show 0 + _ = _
  rw [Int.zero_add, Int.one_mul]
theorem su_one {D : Nat} (h : D ≤ 2) {ws : List (List Nat)} {row : List Int} (q : PrQ D ws row) : SuI D 0 ws row := by
  have bb := bnds h
  obtain ⟨q, hd⟩ := q
  refine ⟨?_, q.bd.mono (by omega), q.len, q.tr, q.all, by have := q.wt; omega⟩
  have r := rdS_one q.rd (q.okR (by omega)) hd.1 hd.2
  rw [add_one q.tr] at r
  exact r
theorem su_neg {D : Nat} (h : D ≤ 2) {ws : List (List Nat)} {row : List Int} (q : PrQ D ws row) : SuI D 0 ([[45]] ++ ws) (addI [] row (-1)) := by
  have bb := bnds h
  obtain ⟨q, hd⟩ := q
  refine ⟨rdS_neg q.rd (q.okR (by omega)), (Bd.addI (b := 0) Bd.nil q.bd (sg_bd (.inr rfl))).mono ?_, Nat.le_trans (len_addI _ _ _) ?_, tr_addI _ _ _, allOk_app (allOk_one (.inl (by decide)) (low_one (by decide))) q.all, ?_⟩
  · rw [Nat.max_eq_right (Nat.zero_le _)]
    omega
  · have := q.len
    simpa using this
  · rw [wt_app]
    have e1 : Y.wt [[45]] = 3 := by decide
    have := q.wt
    omega
theorem su_step {D i : Nat} (h : D ≤ 2) (hi : i < sN D) {ws w : List (List Nat)} {row p : List Int} {g : List Nat} {z : Int} (hg : (g = [43] ∧ z = 1) ∨ (g = [45] ∧ z = -1)) (q : SuI D i ws row) (f : PrQ D w p) : SuI D (i + 1) (ws ++ [g] ++ w) (addI row p z) := by
  have bb := bnds h
  have hs : sN D ≤ 4 := by
    unfold sN
    split <;> decide
  obtain ⟨f, hd⟩ := f
  have zs : z = 1 ∨ z = -1 := hg.imp (fun e => e.2) (fun e => e.2)
  have gw : isMk g = true ∧ low g ∧ Y.wt [g] = 3 := by
    rcases hg with ⟨rfl, _⟩ | ⟨rfl, _⟩ <;> exact ⟨by decide, low_one (by decide), by decide⟩
  have ew : ws ++ [g] ++ w = ws ++ g :: w := by simp
  refine ⟨?_, (Bd.addI q.bd f.bd (sg_bd zs)).mono ?_, Nat.le_trans (len_addI _ _ _) (Nat.max_le.mpr ⟨q.len, f.len⟩), tr_addI _ _ _, allOk_app (allOk_app q.all (allOk_one (.inl gw.1) gw.2.1)) f.all, ?_⟩
  · rw [ew]
    exact rdS_snoc hg q.rd f.rd ⟨Nat.le_trans q.len (by decide), bdBB q.bd (by omega)⟩ (f.okR (by omega))
  · have : max (bP D + 2 + 2 * i) (1 + bP D) = bP D + 2 + 2 * i := Nat.max_eq_left (by omega)
    rw [this]
    omega
  · rw [wt_app, wt_app]
    have e : (i + 1 + 1) * (wP D + 3) = (i + 1) * (wP D + 3) + (wP D + 3) := Nat.succ_mul _ _
    have := q.wt
    have := f.wt
    omega
theorem su_end {D i : Nat} (h : D ≤ 2) (hi : i ≤ sN D) {ws : List (List Nat)} {row : List Int} (q : SuI D i ws row) : SuQ D ws row := by
  have bb := bnds h
  have e : (i + 1) * (wP D + 3) ≤ (sN D + 1) * (wP D + 3) := Nat.mul_le_mul_right _ (by omega)
  refine ⟨?_, q.bd.mono (by unfold bS; omega), q.len, q.tr, q.all, Nat.le_trans q.wt (by unfold wS; omega)⟩
  rw [sumN_at (by omega)]
  exact rdS_end q.rd
end
end Y
namespace Y
open PySem L2 Z M StX
section
variable {P : Program} {w : World} {K : PySem.W.Frag} {mg : Str → Option Value} {base : Heap} {a : Ad} {d : Fd}
section
variable {cs : List Cell} {x y : Addr} {k : Nat} {ta tb tc td te tm : TE} {E : XK} {c1 c2 c3 : Cell}
theorem ev_pairC (h1 : Ev ta cs (Is c1)) (h2 : Ev tb cs (Is c2)) (p1 : c1.Pure) (p2 : c2.Pure) : Ev (tTup (tCons ta (tCons tb tNil))) cs (Is (cTup [c1, c2])) :=
  (ev_tupC (ea_cons h1 (ea_cons h2 ea_nil)) fun as e => by
    subst e
    refine ⟨by simp, fun c m => ?_⟩
    simp at m
    rcases m with rfl | rfl
    · exact p1
    · exact p2).imp fun c ⟨as, e, r⟩ => by rw [e, r]
theorem ev_tripC (h1 : Ev ta cs (Is c1)) (h2 : Ev tb cs (Is c2)) (h3 : Ev tc cs (Is c3)) (p1 : c1.Pure) (p2 : c2.Pure) (p3 : c3.Pure) : Ev (tTup (tCons ta (tCons tb (tCons tc tNil)))) cs (Is (cTup [c1, c2, c3])) :=
  (ev_tupC (ea_cons h1 (ea_cons h2 (ea_cons h3 ea_nil))) fun as e => by
    subst e
    refine ⟨by simp, fun c m => ?_⟩
    simp at m
    rcases m with rfl | rfl | rfl
    · exact p1
    · exact p2
    · exact p3).imp fun c ⟨as, e, r⟩ => by rw [e, r]
abbrev tlW (K : PySem.W.Frag) (ws : List (List Nat)) : Cell := cTL K (ws.map strD)
def isDr (K : PySem.W.Frag) (Q : List (List Nat) → List Int → Prop) : Cell → Prop := fun c => ∃ ws row, c = cTup [tlW K ws, cD K (tI row)] ∧ Q ws row
theorem ev_lsW {ws : List (List Nat)} (h : Ev te cs (isO K (ws.map strD))) : Ev te cs (Is (tlW K ws)) := h.freezeT
theorem ev_dr {Q : List (List Nat) → List Int → Prop} {ws : List (List Nat)} {row : List Int} (h1 : Ev ta cs (Is (tlW K ws))) (h2 : Ev tb cs (Is (cD K (tI row)))) (q : Q ws row) : Ev (tTup (tCons ta (tCons tb tNil))) cs (isDr K Q) := (ev_pairC h1 h2 cTL_pure cD_pure).imp fun c r => ⟨ws, row, r, q⟩
theorem ev_catW {a b : List (List Nat)} (h1 : Ev ta cs (Is (tlW K a))) (h2 : Ev tb cs (Is (tlW K b))) (hz : a.length + b.length ≤ 100000) : Ev (tOp rCat ta tb) cs (Is (tlW K (a ++ b))) := by
  have q := ev_catL h1 h2 (by rw [List.length_map, List.length_map]; exact hz)
  rw [← List.map_append] at q
  exact q
end
abbrev spDr (K : PySem.W.Frag) (Q : Nat → List (List Nat) → List Int → Prop) (D : Nat) : Sp := spR (fun i : {x : Addr × Addr // D ≤ 2} => [cDl i.1.1 i.1.2, cI K (D : Nat)]) (fun i cs' c' => isDr K (Q D) c' ∧ cs' = [cDl i.1.1 i.1.2, cNo])
abbrev spSu (K : PySem.W.Frag) (D : Nat) : Sp := spR (fun i : {x : Addr × Addr // D ≤ 2} => [cDl i.1.1 i.1.2, cI K (D : Nat), cI K (sN D : Nat)]) (fun i cs' c' => isDr K (SuQ D) c' ∧ cs' = [cDl i.1.1 i.1.2, cNo, cNo])
section
variable {cs : List Cell} {x y : Addr} {k D : Nat} {td te tm : TE} {E : XK}
theorem ev_drawn {Q : Nat → List (List Nat) → List Int → Prop} (h : D ≤ 2) (hk : cs[k]? = some (cDl x y)) (hd : Ev td cs (Is (cV (.ref x)))) (hb : Ev te cs (Is (cI K (D : Nat)))) : Ev (tCall (spDr K Q D) [] E (tCons td (tCons te tNil))) cs (isDr K (Q D)) :=
  ev_callK1 (I := {x : Addr × Addr // D ≤ 2}) ⟨(x, y), h⟩ k hk cDl_pin rfl (ea_cons hd (ea_cons hb ea_nil)) fun cs' c' po => ⟨po.2, po.1⟩
theorem ev_sumD (h : D ≤ 2) (hk : cs[k]? = some (cDl x y)) (hd : Ev td cs (Is (cV (.ref x)))) (hb : Ev te cs (Is (cI K (D : Nat)))) (hm : Ev tm cs (Is (cI K (sN D : Nat)))) : Ev (tCall (spSu K D) [] E (tCons td (tCons te (tCons tm tNil)))) cs (isDr K (SuQ D)) :=
  ev_callK1 (I := {x : Addr × Addr // D ≤ 2}) ⟨(x, y), h⟩ k hk cDl_pin rfl (ea_cons hd (ea_cons hb (ea_cons hm ea_nil))) fun cs' c' po => ⟨po.2, po.1⟩
end
theorem ok_noSu (k D : Nat) (h : ¬ D ≤ 2) : FnOk P w K mg base CX0 k a._law_sum d._law_sum ["deal", "deep", "most"] (spSu K D) := by
  have no : ∀ {vs H Q E}, ¬ spSu K D vs H Q E := fun q => by
    obtain ⟨⟨_, hi⟩, _⟩ := q
    exact h hi
  exact ⟨fun vs H Q E h => absurd h no, fun A outer s H args us vs Q E _ _ _ _ h => absurd h no⟩
theorem sc__law_atom : FnScope ["deal", "deep", "form", "number", "words", "row"] ["deal", "deep"] (defScope (topS 53)) := ⟨rfl, rfl, rfl, by decide +kernel, rfl, by decide +kernel, by decide +kernel⟩
theorem ok__law_atom {D k : Nat} (hk : 4 ≤ k) (G : FnOk P w K mg base CX0 k a._law_sum d._law_sum ["deal", "deep", "most"] (spSu K (D + 1))) (T : Txt K mg a d) : FnOk P w K mg base CX0 (k + 1) a._law_atom d._law_atom ["deal", "deep"] (spDr K AtQ D) := by
  refine T.F__law_atom.ok sc__law_atom (fun vs H Q E h => spR_len (n := 2) (fun _ => rfl) h) (fun cdv A outer s H vs Q E hr h => ?_)
  obtain ⟨i, B0, F0, rt, go⟩ := enter (N := ["deal", "deep", "form", "number", "words", "row"]) h
  refine ⟨_, (pss_cons (ps_set (i := 2) sc__law_atom.nd rfl (Or.inl rfl) (pe_call (ok__law_any T) (hr.mono (by omega)) rfl T.m__law_any T.F__law_any.kp T.b__law_any .nil pass0 (pa_cons (pv 0) (pa_cons pe_int pa_nil))))
    (pss_cons (ps_if (PW.pt (pw_or (pt_cmpR op_lt (pv 2) pe_int (nomark _)) (pw_or1 (pt_cmpR op_gt (pv 1) pe_int (nomark _)))))
      (pss_cons (ps_set (i := 3) sc__law_atom.nd rfl (Or.inl rfl) (pe_call (ok__law_of T) (hr.mono (by omega)) rfl T.m__law_of T.F__law_of.kp T.b__law_of .nil pass0 (pa_cons (pv 0) (pa_cons (pe_lst (pa_cons pe_int (pa_cons pe_int (pa_cons pe_int (pa_cons (pe_call (ok__law_any T) (hr.mono (by omega)) rfl T.m__law_any T.F__law_any.kp T.b__law_any .nil pass0 (pa_cons (pv 0) (pa_cons (pe_op op_pow pe_int pe_int) pa_nil))) (pa_cons (pe_call (ok__law_any T) (hr.mono (by omega)) rfl T.m__law_any T.F__law_any.kp T.b__law_any .nil pass0 (pa_cons (pv 0) (pa_cons (pe_op op_pow pe_int pe_int) pa_nil))) pa_nil)))))) pa_nil))))
      (pss_one (ps_ret (pe_ifExp (pt_cmpR (op_eqD hr.units) (pv 2) pe_int (nomark _)) (pe_tup (pa_cons (pe_lst (pa_cons (pe_callTy call_str_int (by rfl) T.n_str (by decide +kernel) (pa_cons (pv 3) pa_nil)) pa_nil)) (pa_cons (pe_call (ok__law_trimT T) (hr.mono (by omega)) rfl T.m__law_trim T.F__law_trim.kp T.b__law_trim .nil pass0 (pa_cons (pe_tup (pa_cons (pv 3) pa_nil)) pa_nil)) pa_nil))) (pe_tup (pa_cons (pe_lst (pa_cons pe_str pa_nil)) (pa_cons (pe_tup (pa_cons pe_int (pa_cons pe_int pa_nil))) pa_nil)))))))
      pss_nil)
    (pss_cons (ps_if (pt_cmpR (op_eqD hr.units) (pv 2) pe_int (nomark _))
      (pss_one (ps_ret (pe_tup (pa_cons (pe_lst (pa_cons pe_str pa_nil)) (pa_cons (pe_tup (pa_cons pe_int (pa_cons pe_int pa_nil))) pa_nil)))))
      pss_nil)
    (pss_cons (ps_asg (pe_call G (hr.mono (by omega)) rfl T.m__law_sum T.F__law_sum.kp T.b__law_sum .nil pass0 (pa_cons (pv 0) (pa_cons (pe_op op_add (pv 1) pe_int) (pa_cons pe_int pa_nil)))) (pg_tup rfl (pgs_cons (pg_name (i := 4) sc__law_atom.nd rfl (Or.inl rfl)) (pgs_cons (pg_name (i := 5) sc__law_atom.nd rfl (Or.inl rfl)) pgs_nil))))
    (pss_one (ps_ret (pe_tup (pa_cons (pe_op op_cat (pe_op op_cat (pe_lst (pa_cons pe_str pa_nil)) (pv 4)) (pe_lst (pa_cons pe_str pa_nil))) (pa_cons (pv 5) pa_nil))))))))), go _ ?_⟩
  obtain ⟨⟨x, y⟩, hD⟩ := i
  have hD : D ≤ 2 := hD
  have rt' : ∀ {ws : List (List Nat)} {row : List Int} (cs : List Cell), AtQ D ws row → RtOk B0 F0 (cTup [tlW K ws, cD K (tI row)] :: cDl x y :: cI K (D : Nat) :: cs) Q := fun cs q => rt _ _ _ ⟨⟨_, _, rfl, q⟩, rfl⟩ (.keep cDl_pin cDl_pin (.no .nil))
  clear rt go h
  have xs : ∀ {cs : List Cell}, Ev (tTup (tCons (tLst (tCons (tC (.str "x")) tNil)) (tCons (tTup (tCons (tC (.int 0)) (tCons (tC (.int 1)) tNil))) tNil))) cs (isDr K (AtQ D)) := fun {cs} =>
    ev_dr (ws := [[120]]) (row := [0, 1]) (ev_lsW (ws := [[120]]) (ev_lst (ds := [strD [120]]) (ea_cons (ev_litT (by decide +kernel)) ea_nil) (by simp))) (ev_tup (ds := [.int 0, .int 1]) (ea_cons ev_int (ea_cons ev_int ea_nil)) (by simp)) (at_x hD)
  refine gs_asg (R := isI K (fun r => 0 ≤ r ∧ r < 4)) (ev_any (k := 0) (x := x) (y := y) rfl (ev_varP rfl cDl_pin) (ev_int (n := 4)) (by decide) (by decide)) fun c r => ?_
  obtain ⟨f, rfl, f1, f2⟩ := r
  refine gs_ifE (b := decide (f < 2) || decide ((1 : Int) < (D : Int))) (et_or (et_test (ev_cmp2 (ev_var rfl) (ev_int (n := 2)))) fun _ => et_test (ev_cmp2 (ev_var (d := .int (D : Nat)) rfl) (ev_int (n := 1)))) (fun hb => ?_) (fun hb => ?_)
  · have h59 : (10 : Int) ^ (59 : Int).toNat = 100000000000000000000000000000000000000000000000000000000000 := by decide
    refine gs_asg (R := isI K (fun n => 0 ≤ n ∧ n < 100000000000000000000000000000000000000000000000000000000000)) (ev_pick (k := 0) (x := x) (y := y) rfl (ev_varP rfl cDl_pin) (ea_iC (ev_ci (by decide)) (ea_iC (ev_ci (by decide)) (ea_iC (ev_ci (by decide))
      (ea_iC ((ev_any (k := 0) (x := x) (y := y) rfl (ev_varP rfl cDl_pin) (ev_powc (K := K) (r := 1000000) (by decide) ⟨by decide, by decide, by decide⟩) (by decide) (by decide)).wI fun z h => by omega)
      (ea_iC (ev_anyB (k := 0) (x := x) (y := y) rfl (ev_varP rfl cDl_pin) (ev_powc (K := K) h59 ⟨by decide, by decide, by decide⟩) (by decide) (by decide)) ea_i0))))) (by decide) (by decide)) fun c r => ?_
    obtain ⟨n, rfl, n1, n2⟩ := r
    obtain ⟨n, rfl⟩ : ∃ m : Nat, n = (m : Int) := ⟨n.toNat, by omega⟩
    have n2 : n < 10 ^ 59 := by
      have : (10 : Nat) ^ 59 = 100000000000000000000000000000000000000000000000000000000000 := by decide
      omega
    refine go_ret (R := isDr K (AtQ D)) (ev_ifN (P := fun _ => True) ((et_test (ev_eqI (ev_var rfl) (ev_int (n := 0)))).imp fun _ _ => trivial) (fun _ => ?_) (fun _ => xs)) fun c r => ?_
    · refine ev_dr (ws := [nT n]) (row := trimI [(n : Int)]) (ev_lsW (ev_lst (ds := [strD (nT n)]) (ea_cons (ev_strN (n := n) (ev_var rfl) (Nat.lt_trans n2 (by decide +kernel))) ea_nil) (by simp))) (ev_call (I := List Int) (A := fun i => [tI i]) (f := fun i => tI (trimI i)) [(n : Int)] (ea_cons (ev_tup (ds := [.int (n : Nat)]) (ea_cons (ev_var rfl) ea_nil) (by simp)) ea_nil)) (at_num hD n2)
    · obtain ⟨ws, row, rfl, q⟩ := r
      exact rt' _ q
  · simp only [Bool.or_eq_false_iff, decide_eq_false_iff_not] at hb
    have hD2 : D < 2 := by omega
    refine gs_ifE (b := decide (f = 2)) (et_test (ev_eqI (ev_var rfl) (ev_int (n := 2)))) (fun _ => ?_) (fun _ => ?_)
    · refine go_ret xs fun c r => ?_
      obtain ⟨ws, row, rfl, q⟩ := r
      exact rt' _ q
    · refine gs_asgN (ev_sumD (D := D + 1) (x := x) (y := y) (k := 0) (by omega) rfl (ev_varP rfl cDl_pin) ((ev_int20 (ev_var (d := .int (D : Nat)) rfl) (ev_int (n := 1))).il rfl) ((ev_int (n := 1)).il (by rw [(bnds hD).2.2.2.2.2.2.2.2.2.2.2.2 hD2 |>.2.2]; rfl))) fun c r => ?_
      obtain ⟨ws, row, rfl, q⟩ := r
      have lw : ws.length ≤ 20000 := by
        have h1 := q.wt
        have h2 := (bnds (D := D + 1) (by omega)).2.2.2.2.2.2.2.1
        unfold wt at h1
        omega
      refine ⟨_, _, tgC2, ?_⟩
      refine go_ret (R := isDr K (AtQ D)) (ev_dr (ws := [[40]] ++ ws ++ [[41]]) (row := row) (ev_catW (ev_catW (ev_lsW (ws := [[40]]) (ev_lst (ds := [strD [40]]) (ea_cons (ev_litT (by decide +kernel)) ea_nil) (by simp))) (ev_varTL rfl) (by simp; omega)) (ev_lsW (ws := [[41]]) (ev_lst (ds := [strD [41]]) (ea_cons (ev_litT (by decide +kernel)) ea_nil) (by simp))) (by simp; omega)) (ev_var rfl) (at_br hD2 q)) fun c r => ?_
      obtain ⟨ws, row, rfl, q⟩ := r
      exact rt' _ q
end
end Y
namespace Z
open PySem L2 StX HT
section
variable {K : PySem.W.Frag} {B0 F0 H : Hp} {cs ts : List Cell} {us σ : List (Option V)} {c : Cell} {te ta tb tc : TE} {D : Ends} {d : PyData} {R : Cell → Prop} {u : TS}
theorem go_par3 {i j l : Nat} {c1 c2 c3 : Cell} {ta : TA} (h : EvA ta cs (fun as => as = [c1, c2, c3])) (k : Go B0 F0 (((cs.set i c1).set j c2).set l c3) D.nx) : Go B0 F0 cs (tPar3 i j l ta D) := fun σ H S =>
  h B0 F0 [] [] σ H rfl S _ fun as vs H' r hv S' => by
    subst r
    match vs, hv with
    | [v, w, x], _ =>
      have S2 : Sim B0 F0 (c1 :: c2 :: c3 :: cs) (some v :: some w :: some x :: σ) H' := S'
      exact ⟨v, w, x, rfl, k _ _ (((S2.set (i + 2)).set (j + 1)).set l)⟩
theorem gs_par3 {i j l : Nat} {c1 c2 c3 : Cell} {ta : TA} (h : EvA ta cs (fun as => as = [c1, c2, c3])) (k : Go B0 F0 (((cs.set i c1).set j c2).set l c3) (u D)) : Go B0 F0 cs (tSeq (tPar3 i j l ta) u D) := go_seq (go_par3 h k)
/-- == of drawn ints -/
theorem et_eqIN {P1 P2 : Int → Prop} (ha : Ev ta cs (isI K P1)) (hb : Ev tb cs (isI K P2)) : EvT (tTest (tOp (rEqD K) ta tb)) cs (fun b => ∃ i j, P1 i ∧ P2 j ∧ b = decide (i = j)) :=
  et_testN (K := K) (P := fun b => ∃ i j, P1 i ∧ P2 j ∧ b = decide (i = j)) (ev_op2 ha hb fun c1 c2 ⟨n, r1, p1⟩ ⟨m, r2, p2⟩ B0 F0 ts us σ H x y hl S Q q => by
    subst r1 r2
    have h1 := (Sim.swap S).dp
    have h2 := S.dp
    exact ⟨.int n, .int m, h1, h2, rfl, rfl, q _ _ _ ⟨_, rfl, n, m, p1, p2, (show (n == m) = decide (n = m) from rfl)⟩ (S.pop.pop.pushD fun _ => .bl _)⟩)
theorem et_neIN {P1 P2 : Int → Prop} (ha : Ev ta cs (isI K P1)) (hb : Ev tb cs (isI K P2)) : EvT (tTest (tOp (rNeD K) ta tb)) cs (fun b => ∃ i j, P1 i ∧ P2 j ∧ b = !decide (i = j)) :=
  et_testN (K := K) (P := fun b => ∃ i j, P1 i ∧ P2 j ∧ b = !decide (i = j)) (ev_op2 ha hb fun c1 c2 ⟨n, r1, p1⟩ ⟨m, r2, p2⟩ B0 F0 ts us σ H x y hl S Q q => by
    subst r1 r2
    have h1 := (Sim.swap S).dp
    have h2 := S.dp
    exact ⟨.int n, .int m, h1, h2, rfl, rfl, q _ _ _ ⟨_, rfl, n, m, p1, p2, (show (!(n == m)) = !decide (n = m) from rfl)⟩ (S.pop.pop.pushD fun _ => .bl _)⟩)
end
end Z
namespace Y
open PySem L2 Z M StX
section
variable {P : Program} {w : World} {K : PySem.W.Frag} {mg : Str → Option Value} {base : Heap} {a : Ad} {d : Fd}
section
variable {cs : List Cell} {x y : Addr} {k : Nat} {ta tb td te : TE} {tl : TA} {E : XK}
theorem ea_p0 {P : PyData → Prop} : EvA tNil cs (rowD K (fun ds => ds.length = 0 ∧ ∀ d ∈ ds, P d)) := ea_nilD.imp fun as ⟨ds, e, p⟩ => ⟨ds, e, by rw [p]; rfl, fun d m => by rw [p] at m; cases m⟩
theorem ea_pC {P : PyData → Prop} {n : Nat} (h : Ev te cs (isD K P)) (hr : EvA tl cs (rowD K (fun ds => ds.length = n ∧ ∀ d ∈ ds, P d))) : EvA (tCons te tl) cs (rowD K (fun ds => ds.length = n + 1 ∧ ∀ d ∈ ds, P d)) :=
  (ea_consD h hr).imp fun as ⟨ds, e, d, r, e2, p, l, q⟩ => ⟨ds, e, by rw [e2, List.length_cons, l], fun d' m => by
    rw [e2] at m
    rcases List.mem_cons.mp m with z | z
    · rw [z]; exact p
    · exact q d' z⟩
theorem ev_lsP {P : PyData → Prop} {n : Nat} (h : EvA tl cs (rowD K (fun ds => ds.length = n ∧ ∀ d ∈ ds, P d))) (hn : n ≤ 1000) : Ev (tLst tl) cs (isLs K (fun ds => ds.length = n ∧ ∀ d ∈ ds, P d)) := (ev_lstN h fun ds p => by rw [p.1]; omega).freezeN
theorem ev_pickP {P : PyData → Prop} {n : Nat} (hk : cs[k]? = some (cDl x y)) (hd : Ev td cs (Is (cV (.ref x)))) (h : EvA tl cs (rowD K (fun ds => ds.length = n ∧ ∀ d ∈ ds, P d))) (h0 : 0 < n) (hn : n ≤ 1000) : Ev (tCall (spOf K) [] E (tCons td (tCons (tLst tl) tNil))) cs (isD K P) :=
  (ev_of hk hd (ev_lsP h hn) fun ds p => by rw [p.1]; exact ⟨h0, hn⟩).imp fun c ⟨d, e, ds, p, m⟩ => ⟨d, e, p.2 d m⟩
theorem ev_strBN {n : Nat} (h : Ev te cs (Is (cI K (n : Nat)))) (hz : n < 10 ^ 4300) : Ev (tCB (fun xs H Q => ∃ i, xs = [.int i] ∧ i.natAbs < 10 ^ 4300 ∧ Q (.str (toString i)) H) (tCons te tNil)) cs (Is (cD K (strD (nT n)))) :=
  (ev_strB h (by rw [Int.natAbs_natCast]; exact hz)).eq (congrArg PyData.str (SX.num_S n))
theorem lay_strs : ∀ ws : List (List Nat), (∀ w ∈ ws, low w) → PyData.canLayAll0 (ws.map strD) = true ∧ PyData.depthAll (ws.map strD) ≤ 1
  | [], _ => ⟨rfl, Nat.zero_le _⟩
  | w :: ws, h => by
    obtain ⟨a, b⟩ := lay_strs ws fun v hv => h v (List.mem_cons_of_mem _ hv)
    refine ⟨sh_cons (lay_S (h w (List.mem_cons_self ..))) a, ?_⟩
    show max (PyData.depth (strD w)) (PyData.depthAll (ws.map strD)) ≤ 1
    exact Nat.max_le.mpr ⟨Nat.zero_le _, b⟩
theorem sh_strs {ws : List (List Nat)} (h : ∀ w ∈ ws, low w) : SeqAt.shaped (.list (ws.map strD)) = true := by
  obtain ⟨a, b⟩ := lay_strs ws h
  show (PyData.canLay0 (.list (ws.map strD)) && decide (PyData.depth (.list (ws.map strD)) ≤ 64)) = true
  have h1 : PyData.canLay0 (.list (ws.map strD)) = true := a
  have h2 : PyData.depth (.list (ws.map strD)) = PyData.depthAll (ws.map strD) + 1 := rfl
  rw [h1, h2, Bool.true_and]
  exact decide_eq_true (by omega)
/-- words != [] -/
theorem ev_neNilW {ws : List (List Nat)} (hw : ∀ w ∈ ws, low w) (ha : Ev ta cs (Rdb K cs (.list (ws.map strD)))) (h0 : Ev tb cs (isO K [])) : Ev (tOp (rNeD K) ta tb) cs (Is (cB K (!decide (ws = [])))) := (ev_ne ha h0.freeze.rd (sh_strs hw) rfl).bo (by
  rw [eqv_nilL]
  cases ws <;> rfl)
end
def dM : Option Nat → PyData
  | none => .none
  | some n => .int (n : Nat)
theorem mxA_lt {l : List Int} {b : Nat} (h : Bd b l) (hb : 0 < b) : ∃ n : Nat, max 1 (mxA l) = (n : Int) ∧ n < 2 ^ b := by
  have h1 : (1 : Int) < 2 ^ b := by
    have : 1 < 2 ^ b := Nat.one_lt_two_pow (by omega)
    exact_mod_cast this
  have h2 : mxA l < 2 ^ b := by
    rcases List.mem_cons.mp (mxA_mem l) with e | e
    · rw [e]
      omega
    · obtain ⟨z, hz, e⟩ := List.mem_map.mp e
      rw [← e]
      have := h z hz
      exact_mod_cast this
  refine ⟨(max 1 (mxA l)).toNat, by omega, ?_⟩
  have h3 : ((max 1 (mxA l)).toNat : Int) < 2 ^ b := by omega
  exact_mod_cast h3
theorem by_ok {x y : List Int} {p q : Nat} (hx : x.length ≤ 60) (hy : y.length ≤ 60) (bx : Bd p x) (by' : Bd q y) (hp : p ≤ 30000) (hq : q ≤ 30000) : RP.ok (RP.mk x y) := RP.is (by omega) (by omega) (bdBB bx hp) (bdBB by' hq)
theorem wA_le {D : Nat} (h : D ≤ 2) : wA D ≤ 1300 := by
  match D, h with
  | 0, _ => decide
  | 1, _ => decide
  | 2, _ => decide
theorem cmulw {a b : Nat} (ha : a ≤ 100000) (hb : b ≤ 100000) : CMulW (a : Int) (b : Int) := mw (a := 40) (b := 40) (by omega) (by omega) (by decide)
theorem sc__law_product : FnScope ["deal", "deep", "words", "row", "turn", "atom", "base", "many", "longest", "power", "place", "entry"] ["deal", "deep"] (defScope (topS 54)) := ⟨rfl, rfl, rfl, by decide +kernel, rfl, by decide +kernel, by decide +kernel⟩
theorem ok__law_product {D k : Nat} (hk : 4 ≤ k) (G : FnOk P w K mg base CX0 k a._law_atom d._law_atom ["deal", "deep"] (spDr K AtQ D)) (T : Txt K mg a d) : FnOk P w K mg base CX0 (k + 1) a._law_product d._law_product ["deal", "deep"] (spDr K PrQ D) := by
  refine T.F__law_product.ok sc__law_product (fun vs H Q E h => spR_len (n := 2) (fun _ => rfl) h) (fun cdv A outer s H vs Q E hr h => ?_)
  obtain ⟨i, B0, F0, rt, go⟩ := enter (N := ["deal", "deep", "words", "row", "turn", "atom", "base", "many", "longest", "power", "place", "entry"]) h
  refine ⟨_, (pss_cons (ps_par (i := 2) (j := 3) (by rfl) sc__law_product.nd rfl rfl (by decide) rfl rfl (pa_cons (pe_lst pa_nil) (pa_cons (pe_tup (pa_cons pe_int pa_nil)) pa_nil)) (by rfl))
    (pss_cons (ps_for PassesOwn.never rfl (pi_range1 (by rfl) T.n_range (pa_cons (pe_call (ok__law_of T) (hr.mono (by omega)) rfl T.m__law_of T.F__law_of.kp T.b__law_of .nil pass0 (pa_cons (pv 0) (pa_cons (pe_lst (pa_cons pe_int (pa_cons pe_int (pa_cons pe_int (pa_cons (pe_ifExp (pt_cmpR (op_eqD hr.units) (pv 1) pe_int (nomark _)) pe_int pe_int) pa_nil))))) pa_nil))) pa_nil)) (pg_name (i := 4) sc__law_product.nd rfl (Or.inl rfl))
      (pss_cons (ps_asg (pe_call G (hr.mono (by omega)) rfl T.m__law_atom T.F__law_atom.kp T.b__law_atom .nil pass0 (pa_cons (pv 0) (pa_cons (pv 1) pa_nil))) (pg_tup rfl (pgs_cons (pg_name (i := 5) sc__law_product.nd rfl (Or.inl rfl)) (pgs_cons (pg_name (i := 6) sc__law_product.nd rfl (Or.inl rfl)) pgs_nil))))
      (pss_cons (ps_set (i := 7) sc__law_product.nd rfl (Or.inl rfl) (pe_call (ok__law_of T) (hr.mono (by omega)) rfl T.m__law_of T.F__law_of.kp T.b__law_of .nil pass0 (pa_cons (pv 0) (pa_cons (pe_lst (pa_cons pe_non (pa_cons pe_non (pa_cons pe_int (pa_cons pe_int (pa_cons pe_int (pa_cons pe_int (pa_cons (pe_call (ok__law_any T) (hr.mono (by omega)) rfl T.m__law_any T.F__law_any.kp T.b__law_any .nil pass0 (pa_cons (pv 0) (pa_cons pe_int pa_nil))) pa_nil)))))))) pa_nil))))
      (pss_cons (ps_set (i := 8) sc__law_product.nd rfl (Or.inl rfl) (pe_callB call_len_str (by rfl) T.n_len PySem.boot_len (pa_cons (pe_callTy (call_str_big T.dig rfl) (by rfl) T.n_str (by decide +kernel) (pa_cons (pe_callB (cr_max rfl) (by rfl) T.n_max (by decide +kernel) (pa_cons (pe_op op_cat (pe_lst (pa_cons pe_int pa_nil)) (pe_lc (own := [("entry", 11)]) (g := (gName 11)) rfl sc__law_product.nd (pi_tup (pv 6)) (blkOk_by (own := [("entry", 11)]) (N := ["deal", "deep", "words", "row", "turn", "atom", "base", "many", "longest", "power", "place", "entry"]) (sc := defScope (topS 54)) (by decide +kernel)) (fun _ _ _ _ _ => (pg_name (i := 11) sc__law_product.nd rfl (Or.inl rfl))) (fun _ _ _ _ _ => pts_nil) (fun _ _ _ _ _ => (pe_callB call_abs (by rfl) T.n_abs (by decide +kernel) (pa_cons (pv 11) pa_nil))))) pa_nil)) pa_nil)) pa_nil)))
      (Evl.pss_cut (ps_if (PW.pt (pw_and (pt_cmpR op_notN (pv 7) pe_non (nomark _)) (pw_and1 (PW.pt (pw_or (pt_cmpR op_gt (pe_op op_mulW (pe_op op_sub (pe_callB call_len_seq (by rfl) T.n_len PySem.boot_len (pa_cons (pv 6) pa_nil)) pe_int) (pv 7)) pe_int (nomark _)) (pw_or1 (pt_cmpR op_gt (pe_op op_mulW (pv 8) (pv 7)) pe_int (nomark _))))))))
        (pss_one (ps_set (i := 7) sc__law_product.nd rfl (Or.inl rfl) pe_non))
        pss_nil)
      (pss_cons (ps_set (i := 9) sc__law_product.nd rfl (Or.inl rfl) (pv 6))
      (Evl.pss_cut (ps_if (pt_cmpR op_notN (pv 7) pe_non (nomark _))
        (pss_cons (ps_set (i := 9) sc__law_product.nd rfl (Or.inl rfl) (pe_tup (pa_cons pe_int pa_nil)))
        (pss_one (ps_for PassesOwn.never rfl (pi_range1 (by rfl) T.n_range (pa_cons (pv 7) pa_nil)) (pg_name (i := 10) sc__law_product.nd rfl (Or.inl rfl))
          (pss_one (ps_set (i := 9) sc__law_product.nd rfl (Or.inl rfl) (pe_call (ok__law_by T) (hr.mono (by omega)) rfl T.m__law_by T.F__law_by.kp T.b__law_by .nil pass0 (pa_cons (pv 9) (pa_cons (pv 6) pa_nil))))))))
        pss_nil)
      (Evl.pss_cut (ps_if (PW.pt (pw_or (pt_cmpR op_gt (pe_callB call_len_seq (by rfl) T.n_len PySem.boot_len (pa_cons (pe_call (ok__law_by T) (hr.mono (by omega)) rfl T.m__law_by T.F__law_by.kp T.b__law_by .nil pass0 (pa_cons (pv 3) (pa_cons (pv 9) pa_nil))) pa_nil)) pe_int (nomark _)) (pw_or1 (pt_cmpR op_gt (pe_callB call_len_seq (by rfl) T.n_len PySem.boot_len (pa_cons (pv 9) pa_nil)) pe_int (nomark _)))))
        (pss_one (ps_par (i := 7) (j := 9) (by rfl) sc__law_product.nd rfl rfl (by decide) rfl rfl (pa_cons pe_non (pa_cons (pv 6) pa_nil)) (by rfl)))
        pss_nil)
      (Evl.pss_cut (ps_if (pt_cmpR op_gt (pe_callB call_len_seq (by rfl) T.n_len PySem.boot_len (pa_cons (pe_call (ok__law_by T) (hr.mono (by omega)) rfl T.m__law_by T.F__law_by.kp T.b__law_by .nil pass0 (pa_cons (pv 3) (pa_cons (pv 9) pa_nil))) pa_nil)) pe_int (nomark _))
        (pss_one (ps_par3 (i := 5) (j := 9) (l := 7) (by rfl) sc__law_product.nd rfl rfl rfl (by decide) (by decide) (by decide) rfl rfl rfl (pa_cons (pe_lst (pa_cons pe_str pa_nil)) (pa_cons (pe_tup (pa_cons pe_int pa_nil)) (pa_cons pe_non pa_nil))) (by rfl)))
        pss_nil)
      (pss_cons (ps_set (i := 3) sc__law_product.nd rfl (Or.inl rfl) (pe_call (ok__law_by T) (hr.mono (by omega)) rfl T.m__law_by T.F__law_by.kp T.b__law_by .nil pass0 (pa_cons (pv 3) (pa_cons (pv 9) pa_nil))))
      (pss_one (ps_set (i := 2) sc__law_product.nd rfl (Or.inl rfl) (pe_op op_cat (pe_op op_cat (pe_op op_cat (pv 2) (pe_ifExp (pt_cmpR (op_neD hr.units) (pv 2) (pe_lst pa_nil) (nomark _)) (pe_lst (pa_cons pe_str pa_nil)) (pe_lst pa_nil))) (pv 5)) (pe_ifExp (pt_cmpR op_isN (pv 7) pe_non (nomark _)) (pe_lst pa_nil) (pe_lst (pa_cons pe_str (pa_cons (pe_callTy (call_str_big T.dig rfl) (by rfl) T.n_str (by decide +kernel) (pa_cons (pv 7) pa_nil)) pa_nil)))))))))))))))))
    (pss_one (ps_ret (pe_tup (pa_cons (pv 2) (pa_cons (pv 3) pa_nil))))))), go _ ?_⟩
  obtain ⟨⟨x, y⟩, hD⟩ := i
  have hD : D ≤ 2 := hD
  have rt' : ∀ {ws : List (List Nat)} {row : List Int} (cs : List Cell), PrQ D ws row → RtOk B0 F0 (cTup [tlW K ws, cD K (tI row)] :: cDl x y :: cI K (D : Nat) :: cs) Q := fun cs q => rt _ _ _ ⟨⟨_, _, rfl, q⟩, rfl⟩ (.keep cDl_pin cDl_pin (.no .nil))
  clear rt go h
  have bb := bnds hD
  refine gs_parG (ea2 (R1 := Is (tlW K [])) (R2 := Is (cD K (tI [1]))) (ev_lsW (ws := []) (ev_lst (ds := []) ea_nil (by decide))) (ev_tup (ds := [.int 1]) (ea_cons ev_int ea_nil) (by simp))) fun c1 c2 ⟨e1, e2⟩ => ?_
  subst e1 e2
  refine gs_forR (P := fun r => 1 ≤ r ∧ r ≤ (fN D : Nat)) (ev_pick (k := 0) (x := x) (y := y) rfl (ev_varP rfl cDl_pin) (ea_iC (ev_ci (by omega)) (ea_iC (ev_ci (by omega)) (ea_iC (ev_ci (by omega)) (ea_iC (ev_if (b := decide (D = 0)) (et_is (et_test (ev_eqI (ev_var (d := .int (D : Nat)) rfl) (ev_int (n := 0)))) (by simp)) (fun h => ev_ci ?_) (fun _ => ev_ci (by omega))) ea_i0)))) (by decide) (by decide)) (fun r h => by omega)
    (fun i cs' => ∃ ws row c4 c5 c6 c7 c8 c9 c10, cs' = [cDl x y, cI K (D : Nat), tlW K ws, cD K (tI row), c4, c5, c6, c7, c8, c9, c10, cNo] ∧ PrI D i ws row) ⟨[], [1], cNo, cNo, cNo, cNo, cNo, cNo, cNo, rfl, .inl ⟨rfl, rfl, rfl⟩⟩ ?_ ?_
  · have := of_decide_eq_true h
    subst this
    decide
  · rintro B1 sB N i cs' ⟨hN0, hN⟩ hi ⟨ws, row, c4, c5, c6, c7, c8, c9, c10, rfl, I⟩
    have hi3 : i < fN D := by omega
    have rl := I.len
    have rb := I.bd
    have rbb := pr_bits hD (Nat.le_of_lt hi3)
    refine gs_asgN (ev_drawn (Q := AtQ) (D := D) (x := x) (y := y) (k := 0) hD rfl (ev_varP rfl cDl_pin) (ev_var (d := .int (D : Nat)) rfl)) fun c r => ?_
    obtain ⟨aw, b, rfl, A⟩ := r
    have bl := A.1.len
    have bbd := A.1.bd
    refine ⟨_, _, tgC2, ?_⟩
    refine gs_asg (R := isD K (fun d => ∃ o, d = dM o ∧ ∀ n, o = some n → n ≤ 19)) (ev_pickP (k := 0) (x := x) (y := y) rfl (ev_varP rfl cDl_pin) (ea_pC (ev_non.imp fun c r => ⟨_, r, none, rfl, fun _ h => nomatch h⟩) (ea_pC (ev_non.imp fun c r => ⟨_, r, none, rfl, fun _ h => nomatch h⟩)
      (ea_pC (ev_int.imp fun c r => ⟨_, r, some 0, rfl, fun n h => by cases h; decide⟩) (ea_pC (ev_int.imp fun c r => ⟨_, r, some 1, rfl, fun n h => by cases h; decide⟩) (ea_pC (ev_int.imp fun c r => ⟨_, r, some 2, rfl, fun n h => by cases h; decide⟩) (ea_pC (ev_int.imp fun c r => ⟨_, r, some 3, rfl, fun n h => by cases h; decide⟩)
      (ea_pC ((ev_any (k := 0) (x := x) (y := y) rfl (ev_varP rfl cDl_pin) (ev_int (n := 20)) (by decide) (by decide)).imp fun c ⟨n, e, h0, h1⟩ => ⟨_, e, some n.toNat, by show PyData.int n = .int (n.toNat : Nat); rw [Int.toNat_of_nonneg h0], fun m h => by cases h; omega⟩) ea_p0))))))) (by decide) (by decide)) fun c r => ?_
    obtain ⟨_, rfl, o, rfl, ho⟩ := r
    obtain ⟨mx, hmx, hmb⟩ := mxA_lt bbd (by omega)
    have mxb : mx < 10 ^ 4300 := Nat.lt_of_lt_of_le hmb (Nat.le_trans (Nat.pow_le_pow_right (by decide) (show bA D ≤ 7400 by omega)) (by decide +kernel))
    have nl : (nT mx).length ≤ 4300 := TL.numL_len (by decide) mxb
    have lg := bd_longest hmx
    generalize hlo : (nT mx).length = la at nl lg
    clear hmb
    refine gs_set (c := cI K (la : Nat)) ?_ ?_
    · have nl2 : (nT mx).length ≤ 100000 := by rw [hlo]; clear mxb; omega
      refine (ev_lenS (z := SX.S (nT mx)) (ev_strBN (n := mx) ((ev_mxA1 (l := b) (j := 11) (ei_tup (ds := b.map .int) (ev_var rfl)) (by rw [List.length_map]) (fun i c h => item_ints h) rfl (Nat.le_trans bl (by decide)) (r := rMax K) (fun z => ev_abs (ev_var rfl))).il hmx) mxb) (by rw [SX.S_len]; exact nl2)).il ?_
      rw [SX.S_len, hlo]
    clear mxb
    -- the power is small enough
    refine go_cut (fun cs' => ∃ o', cs' = [cDl x y, cI K (D : Nat), tlW K ws, cD K (tI row), cI K (i : Nat), tlW K aw, cD K (tI b), cD K (dM o'), cI K (la : Nat), c9, c10, cNo] ∧ ∀ n, o' = some n → n ≤ 19 ∧ (b.length - 1) * n ≤ 40 ∧ la * n ≤ 200) ?_ ?_
    · cases o with
      | none =>
        refine go_ifF (et_is (et_and (a := false) (b := false) (et_is (et_test (ev_notN (ev_rdD (d := .none) rfl))) rfl) (fun z => nomatch z)) rfl) (go_nx (go_mid ⟨none, rfl, fun _ h => nomatch h⟩))
      | some n =>
        have hn := ho n rfl
        have t1 : Ev (tOp (rI CMulW fun i j => .int (i * j)) (tOp (rI0 fun i j => .int (i - j)) (tCB (fun xs H Q => ∃ p ys, xs = [.ref p] ∧ (SqL K H p ys ∨ SqT K H p ys) ∧ Q (.int ys.length) H) (tCons (tVar 6) tNil)) (tC (.int 1))) (tVar 7)) [cDl x y, cI K (D : Nat), tlW K ws, cD K (tI row), cI K (i : Nat), tlW K aw, cD K (tI b), cD K (dM (some n)), cI K (la : Nat), c9, c10, cNo] (Is (cI K (((b.length : Int) - 1) * (n : Nat)))) :=
          ev_int2 (C := CMulW) (ev_int20 ((ev_lenT (ds := b.map .int) (ev_var rfl)).il (m := (b.length : Int)) (by rw [List.length_map])) (ev_int (n := 1))) (ev_var (d := .int (n : Nat)) rfl) (mw (a := 40) (b := 40) (by omega) (by omega) (by decide))
        refine go_if (b := decide (40 < ((b.length : Int) - 1) * (n : Nat)) || decide ((200 : Int) < (la : Nat) * (n : Nat))) (et_is (et_and (a := true) (b := decide (40 < ((b.length : Int) - 1) * (n : Nat)) || decide ((200 : Int) < (la : Nat) * (n : Nat))) (et_is (et_test (ev_notN (ev_rdD (d := .int (n : Nat)) rfl))) rfl) fun _ => et_or (et_test (ev_cmp2 t1 (ev_int (n := 40)))) fun _ => et_test (ev_cmp2 (ev_int2 (C := CMulW) (ev_var (d := .int (la : Nat)) rfl) (ev_var (d := .int (n : Nat)) rfl) (cmulw (by omega) (by omega))) (ev_int (n := 200)))) (Bool.true_and _)) (fun _ => ?_) (fun hb => ?_)
        · exact go_set (c := cD K (dM none)) ev_non (go_mid ⟨none, rfl, fun _ h => nomatch h⟩)
        · simp only [Bool.or_eq_false_iff, decide_eq_false_iff_not] at hb
          refine go_nx (go_mid ⟨some n, rfl, fun m h => ?_⟩)
          cases h
          refine ⟨hn, ?_, by have := hb.2; exact_mod_cast Int.not_lt.mp this⟩
          have h1 := hb.1
          by_cases h0 : b.length = 0
          · rw [h0]
            simp
          · have e : ((b.length : Int) - 1) * (n : Nat) = (((b.length - 1) * n : Nat) : Int) := by
              rw [Int.natCast_mul]
              congr 1
              omega
            rw [e] at h1
            omega
    rintro cs' ⟨o, rfl, ho⟩
    have fo : ∀ {o'}, (o' = o ∨ o' = none) → FcOk D (aw ++ pwS o') (pwR b o') := fun h => fc_of hD A fun n e => by
      rcases h with rfl | rfl
      · obtain ⟨h1, h2, h3⟩ := ho n e
        exact ⟨h1, h2, la, lg, h3⟩
      · cases e
    refine gs_set (c := cD K (tI b)) (ev_var rfl) ?_
    -- the power
    refine go_cut (fun cs' => ∃ c10, cs' = [cDl x y, cI K (D : Nat), tlW K ws, cD K (tI row), cI K (i : Nat), tlW K aw, cD K (tI b), cD K (dM o), cI K (la : Nat), cD K (tI (pwR b o)), c10, cNo]) ?_ ?_
    · cases o with
      | none => exact go_ifF (et_is (et_test (ev_notN (ev_rdD (d := .none) rfl))) rfl) (go_nx (go_mid ⟨_, rfl⟩))
      | some n =>
        obtain ⟨h1, h2, h3⟩ := ho n rfl
        have ln : ∀ k, k ≤ n → (powI b k).length ≤ 41 := fun k hk => powI_le h2 hk
        have bd : ∀ k, k ≤ n → Bd 3000 (powI b k) := fun k hk => (powI_bd lg ln k hk).mono (by
          have e1 : k * (4 * la + 41) = 4 * (la * k) + 41 * k := by
            rw [Nat.mul_add, Nat.mul_comm k (4 * la), Nat.mul_assoc, Nat.mul_comm k 41]
          have e2 : la * k ≤ la * n := Nat.mul_le_mul_left _ hk
          omega)
        refine go_ifT (et_is (et_test (ev_notN (ev_rdD (d := .int (n : Nat)) rfl))) rfl) ?_
        refine gs_set (c := cD K (tI [1])) (ev_tup (ds := [.int 1]) (ea_cons ev_int ea_nil) (by simp)) ?_
        refine go_for (js := [10]) (ei_rng1 (n := (n : Nat)) (ev_var (d := .int (n : Nat)) rfl) (by omega)) (fun j cs' => ∃ c10, cs' = [cDl x y, cI K (D : Nat), tlW K ws, cD K (tI row), cI K (i : Nat), tlW K aw, cD K (tI b), cD K (dM (some n)), cI K (la : Nat), cD K (tI (powI b j)), c10, cNo]) ⟨_, rfl⟩ ?_ ?_
        · rintro B2 sB2 j c cs' hj rfl ⟨c10, rfl⟩
          have hj : j < n := by simpa using hj
          exact ⟨_, tg_name, go_set (c := cD K (tI (powI b (j + 1)))) (ev_callP (RP.mk (powI b j) b) (by_ok (Nat.le_trans (ln j (by omega)) (by decide)) bl (bd j (by omega)) bbd (by decide) (by omega)) (ea_cons (ev_var rfl) (ea_cons (ev_var rfl) ea_nil))) (go_mid ⟨_, rfl⟩)⟩
        · rintro cs' ⟨c10, rfl⟩
          exact go_mid ⟨c10, by simp; rfl⟩
    rintro cs' ⟨c10, rfl⟩
    have tby : ∀ {p : List Int} {q : Nat} {c5 c6 c7 : Cell} {tv : TE} , p.length ≤ 60 → Bd q p → q ≤ 30000 → Ev (tCB (fun xs H Q => ∃ p ys, xs = [.ref p] ∧ (SqL K H p ys ∨ SqT K H p ys) ∧ Q (.int ys.length) H) (tCons (tCall (spP K RP.ok (fun i => [tI i.a, tI i.b]) (fun i => tI (mulI i.a i.b))) [] E0 (tCons (tVar 3) (tCons (tVar 9) tNil))) tNil)) [cDl x y, cI K (D : Nat), tlW K ws, cD K (tI row), cI K (i : Nat), c5, c6, c7, cI K (la : Nat), cD K (tI p), c10, cNo] (Is (cI K ((mulI row p).length : Nat))) := fun hp hq hq2 =>
      (ev_lenT (ds := (mulI row _).map .int) (ev_callP (RP.mk row _) (by_ok rl hp rb hq rbb hq2) (ea_cons (ev_var rfl) (ea_cons (ev_var rfl) ea_nil)))).il (by rw [List.length_map])
    -- not of too great a degree
    refine go_cut (fun cs' => ∃ o', cs' = [cDl x y, cI K (D : Nat), tlW K ws, cD K (tI row), cI K (i : Nat), tlW K aw, cD K (tI b), cD K (dM o'), cI K (la : Nat), cD K (tI (pwR b o')), c10, cNo] ∧ (o' = o ∨ o' = none)) ?_ ?_
    · have f := (fo (.inl rfl)).1
      refine go_if (b := decide ((40 : Int) < ((mulI row (pwR b o)).length : Nat)) || decide ((40 : Int) < ((pwR b o).length : Nat))) (et_or (et_test (ev_cmp2 (tby (tv := tVar 9) f.len f.bd (by omega)) (ev_int (n := 40)))) fun _ => et_test (ev_cmp2 ((ev_lenT (ds := (pwR b o).map .int) (ev_var rfl)).il (m := ((pwR b o).length : Nat)) (by rw [List.length_map])) (ev_int (n := 40)))) (fun _ => ?_) (fun _ => go_nx (go_mid ⟨o, rfl, .inl rfl⟩))
      exact go_parG (ea2 (R1 := Is (cD K (dM none))) (R2 := Is (cD K (tI b))) ev_non (ev_var rfl)) fun c1 c2 ⟨e1, e2⟩ => by
        subst e1 e2
        exact go_mid ⟨none, rfl, .inr rfl⟩
    rintro cs' ⟨o', rfl, ho'⟩
    have f := fo ho'
    refine go_cut (fun cs' => ∃ aw' c6 o2 p, cs' = [cDl x y, cI K (D : Nat), tlW K ws, cD K (tI row), cI K (i : Nat), tlW K aw', c6, cD K (dM o2), cI K (la : Nat), cD K (tI p), c10, cNo] ∧ FcOk D (aw' ++ pwS o2) p ∧ (mulI row p).length ≤ 60 ∧ (∀ n, o2 = some n → n ≤ 19)) ?_ ?_
    · refine go_if (b := decide ((60 : Int) < ((mulI row (pwR b o')).length : Nat))) (et_test (ev_cmp2 (tby (tv := tVar 9) f.1.len f.1.bd (by omega)) (ev_int (n := 60)))) (fun _ => ?_) (fun hb => ?_)
      · refine go_par3 (c1 := tlW K [[49]]) (c2 := cD K (tI [1])) (c3 := cD K (dM none)) (ea_cons (ev_lsW (ws := [[49]]) (ev_lst (ds := [strD [49]]) (ea_cons (ev_litT (by decide +kernel)) ea_nil) (by simp))) (ea_cons (ev_tup (ds := [.int 1]) (ea_cons ev_int ea_nil) (by simp)) (ea_cons ev_non ea_nil))) (go_mid ⟨[[49]], _, none, [1], rfl, fc_one hD, ?_, fun _ h => nomatch h⟩)
        rw [mulI_one I.tr]
        exact rl
      · have hb := of_decide_eq_false hb
        refine go_nx (go_mid ⟨aw, _, o', _, rfl, f, by omega, fun n e => ?_⟩)
        rcases ho' with rfl | rfl
        · exact (ho n e).1
        · cases e
    rintro cs' ⟨aw', c6', o2, p, rfl, F, hl, ho2⟩
    have st := pr_step hD hi3 I F hl
    refine gs_set (c := cD K (tI (mulI row p))) (ev_callP (RP.mk row p) (by_ok rl F.1.len rb F.1.bd rbb (by omega)) (ea_cons (ev_var rfl) (ea_cons (ev_var rfl) ea_nil))) ?_
    have w1 := I.wt
    have w2 := F.1.wt
    rw [wt_app] at w2
    have w3 : i * (wA D + 10) ≤ fN D * (wA D + 10) := Nat.mul_le_mul_right _ (by omega)
    have w4 := wA_le hD
    have w5 : fN D * (wA D + 10) ≤ 3 * 1310 := Nat.mul_le_mul (by omega) (by omega)
    unfold wt at w1 w2
    refine go_set (c := tlW K (ws ++ (if ws = [] then [] else [[42]]) ++ aw' ++ pwS o2)) (ev_catW (ev_catW (ev_catW (ev_varTL rfl) ?_ ?_) (ev_varTL rfl) ?_) ?_ ?_) (go_mid ⟨_, _, _, _, _, _, _, _, _, rfl, ?_⟩)
    · refine ev_if (b := !decide (ws = [])) (et_test (ev_neNilW (fun w hw => (I.all w hw).2) (ev_rdTL rfl) (ev_lst (ds := []) ea_nil (by decide)))) (fun hb => ?_) (fun hb => ?_)
      · have : ws ≠ [] := by simpa using hb
        rw [if_neg this]
        exact ev_lsW (ws := [[42]]) (ev_lst (ds := [strD [42]]) (ea_cons (ev_litT (by decide +kernel)) ea_nil) (by simp))
      · have : ws = [] := by simpa using hb
        rw [if_pos this]
        exact ev_lsW (ws := []) (ev_lst (ds := []) ea_nil (by decide))
    · split <;> simp <;> omega
    · rw [List.length_append]
      split <;> simp <;> omega
    · cases o2 with
      | none => exact ev_if (b := true) (et_is (et_test (ev_isN (ev_rdD (d := .none) rfl))) rfl) (fun _ => ev_lsW (ws := []) (ev_lst (ds := []) ea_nil (by decide))) (fun z => nomatch z)
      | some n =>
        have := ho2 n rfl
        exact ev_if (b := false) (et_is (et_test (ev_isN (ev_rdD (d := .int (n : Nat)) rfl))) rfl) (fun z => nomatch z) (fun _ => ev_lsW (ws := [[94], nT n]) (ev_lst (ds := [strD [94], strD (nT n)]) (ea_cons (ev_litT (by decide +kernel)) (ea_cons (ev_strBN (n := n) (ev_var (d := .int (n : Nat)) rfl) (Nat.lt_of_le_of_lt this (by decide +kernel))) ea_nil)) (by simp)))
    · rw [List.length_append, List.length_append]
      split <;> simp <;> omega
    · rw [List.append_assoc]
      exact st
  · rintro N cs' ⟨hN0, hN⟩ ⟨ws, row, c4, c5, c6, c7, c8, c9, c10, rfl, I⟩
    have q := pr_end hD (by omega) (by omega) I
    refine go_ret (R := isDr K (PrQ D)) (ev_dr (ev_varTL rfl) (ev_var rfl) q) fun c r => ?_
    obtain ⟨ws, row, rfl, q⟩ := r
    exact rt' _ q
end
end Y
namespace Y
open PySem L2 Z M StX
section
variable {P : Program} {w : World} {K : PySem.W.Frag} {mg : Str → Option Value} {base : Heap} {a : Ad} {d : Fd}
theorem sc__law_sum : FnScope ["deal", "deep", "most", "words", "row", "turn", "sign", "more", "other"] ["deal", "deep", "most"] (defScope (topS 55)) := ⟨rfl, rfl, rfl, by decide +kernel, rfl, by decide +kernel, by decide +kernel⟩
theorem ok__law_sum {D k : Nat} (hk : 4 ≤ k) (G : FnOk P w K mg base CX0 k a._law_product d._law_product ["deal", "deep"] (spDr K PrQ D)) (T : Txt K mg a d) : FnOk P w K mg base CX0 (k + 1) a._law_sum d._law_sum ["deal", "deep", "most"] (spSu K D) := by
  refine T.F__law_sum.ok sc__law_sum (fun vs H Q E h => spR_len (n := 3) (fun _ => rfl) h) (fun cdv A outer s H vs Q E hr h => ?_)
  obtain ⟨i, B0, F0, rt, go⟩ := enter (N := ["deal", "deep", "most", "words", "row", "turn", "sign", "more", "other"]) h
  refine ⟨_, (pss_cons (ps_asg (pe_call G (hr.mono (by omega)) rfl T.m__law_product T.F__law_product.kp T.b__law_product .nil pass0 (pa_cons (pv 0) (pa_cons (pv 1) pa_nil))) (pg_tup rfl (pgs_cons (pg_name (i := 3) sc__law_sum.nd rfl (Or.inl rfl)) (pgs_cons (pg_name (i := 4) sc__law_sum.nd rfl (Or.inl rfl)) pgs_nil))))
    (Evl.pss_cut (ps_if (pt_cmpR (op_eqD hr.units) (pe_call (ok__law_any T) (hr.mono (by omega)) rfl T.m__law_any T.F__law_any.kp T.b__law_any .nil pass0 (pa_cons (pv 0) (pa_cons pe_int pa_nil))) pe_int (nomark _))
      (pss_one (ps_par (i := 3) (j := 4) (by rfl) sc__law_sum.nd rfl rfl (by decide) rfl rfl (pa_cons (pe_op op_cat (pe_lst (pa_cons pe_str pa_nil)) (pv 3)) (pa_cons (pe_call (ok__law_add T) (hr.mono (by omega)) rfl T.m__law_add T.F__law_add.kp T.b__law_add .nil pass0 (pa_cons (pe_tup pa_nil) (pa_cons (pv 4) (pa_cons (pe_un un_neg pe_int) pa_nil)))) pa_nil)) (by rfl)))
      pss_nil)
    (pss_cons (ps_for PassesOwn.never rfl (pi_range1 (by rfl) T.n_range (pa_cons (pe_call (ok__law_any T) (hr.mono (by omega)) rfl T.m__law_any T.F__law_any.kp T.b__law_any .nil pass0 (pa_cons (pv 0) (pa_cons (pe_op op_add (pv 2) pe_int) pa_nil))) pa_nil)) (pg_name (i := 5) sc__law_sum.nd rfl (Or.inl rfl))
      (pss_cons (ps_set (i := 6) sc__law_sum.nd rfl (Or.inl rfl) (pe_call (ok__law_of T) (hr.mono (by omega)) rfl T.m__law_of T.F__law_of.kp T.b__law_of .nil pass0 (pa_cons (pv 0) (pa_cons (pe_lst (pa_cons pe_int (pa_cons (pe_un un_neg pe_int) pa_nil))) pa_nil))))
      (pss_cons (ps_asg (pe_call G (hr.mono (by omega)) rfl T.m__law_product T.F__law_product.kp T.b__law_product .nil pass0 (pa_cons (pv 0) (pa_cons (pv 1) pa_nil))) (pg_tup rfl (pgs_cons (pg_name (i := 7) sc__law_sum.nd rfl (Or.inl rfl)) (pgs_cons (pg_name (i := 8) sc__law_sum.nd rfl (Or.inl rfl)) pgs_nil))))
      (pss_one (ps_par (i := 3) (j := 4) (by rfl) sc__law_sum.nd rfl rfl (by decide) rfl rfl (pa_cons (pe_op op_cat (pe_op op_cat (pv 3) (pe_lst (pa_cons (pe_ifExp (pt_cmpR (op_eqD hr.units) (pv 6) pe_int (nomark _)) pe_str pe_str) pa_nil))) (pv 7)) (pa_cons (pe_call (ok__law_add T) (hr.mono (by omega)) rfl T.m__law_add T.F__law_add.kp T.b__law_add .nil pass0 (pa_cons (pv 4) (pa_cons (pv 8) (pa_cons (pv 6) pa_nil)))) pa_nil)) (by rfl))))))
    (pss_one (ps_ret (pe_tup (pa_cons (pv 3) (pa_cons (pv 4) pa_nil)))))))), go _ ?_⟩
  obtain ⟨⟨x, y⟩, hD⟩ := i
  have hD : D ≤ 2 := hD
  have rt' : ∀ {ws : List (List Nat)} {row : List Int} (cs : List Cell), SuQ D ws row → RtOk B0 F0 (cTup [tlW K ws, cD K (tI row)] :: cDl x y :: cI K (D : Nat) :: cI K (sN D : Nat) :: cs) Q := fun cs q => rt _ _ _ ⟨⟨_, _, rfl, q⟩, rfl⟩ (.keep cDl_pin cDl_pin (.no (.no .nil)))
  clear rt go h
  have bb := bnds hD
  have sle : sN D ≤ 4 := by
    unfold sN
    split <;> decide
  have one_b : (1 : Int).natAbs < 2 ^ BB := one_big
  have lw : ∀ {ws : List (List Nat)} {n : Nat}, wt ws ≤ n → ws.length ≤ n := fun h => by
    unfold wt at h
    omega
  refine gs_asgN (ev_drawn (Q := PrQ) (D := D) (x := x) (y := y) (k := 0) hD rfl (ev_varP rfl cDl_pin) (ev_var (d := .int (D : Nat)) rfl)) fun c r => ?_
  obtain ⟨ws, row, rfl, q⟩ := r
  refine ⟨_, _, tgC2, ?_⟩
  refine go_cut (fun cs' => ∃ ws row, cs' = [cDl x y, cI K (D : Nat), cI K (sN D : Nat), tlW K ws, cD K (tI row), cNo, cNo, cNo, cNo] ∧ SuI D 0 ws row) ?_ ?_
  · refine go_ifN (P := fun _ => True) ((et_eqIN (ev_any (k := 0) (x := x) (y := y) rfl (ev_varP rfl cDl_pin) (ev_int (n := 4)) (by decide) (by decide)) (ev_int (n := 0)).i).imp fun _ _ => trivial) (fun _ => ?_) (fun _ => go_nx (go_mid ⟨_, _, rfl, su_one hD q⟩))
    have l1 := lw q.1.wt
    have l2 : wP D ≤ 20000 := by
      have := bb.2.2.2.2.2.2.2.1
      unfold wS at this
      have e : wP D + 3 ≤ (sN D + 1) * (wP D + 3) := Nat.le_mul_of_pos_left _ (Nat.succ_pos _)
      omega
    have qb := bdBB q.1.bd (by omega)
    have ql := q.1.len
    exact go_parG (ea2 (R1 := Is (tlW K ([[45]] ++ ws))) (R2 := Is (cD K (tI (addI [] row (-1))))) (ev_catW (ev_lsW (ws := [[45]]) (ev_lst (ds := [strD [45]]) (ea_cons (ev_litT (by decide +kernel)) ea_nil) (by simp))) (ev_varTL rfl) (by simp; omega)) (ev_callP (RS.mk [] row (-1)) (RS.is (Nat.zero_le _) (by omega) mone_b qb) (ea_cons (ev_tup (ds := []) ea_nil (by decide)) (ea_cons (ev_var rfl) (ea_cons ((ev_neg (K := K) (ev_int (n := 1))).il (m := -1) rfl) ea_nil))))) fun c1 c2 ⟨e1, e2⟩ => by
      subst e1 e2
      exact go_mid ⟨_, _, rfl, su_neg hD q⟩
  rintro cs' ⟨ws, row, rfl, I⟩
  refine gs_forR (P := fun r => 0 ≤ r ∧ r ≤ (sN D : Nat)) ((ev_any (n := (sN D : Nat) + 1) (k := 0) (x := x) (y := y) rfl (ev_varP rfl cDl_pin) (ev_int20 (ev_var (d := .int (sN D : Nat)) rfl) (ev_int (n := 1))) (by omega) (n140 (by omega) (by omega))).wI fun z h => by omega) (fun r h => by omega)
    (fun i cs' => ∃ ws row c5 c6 c7 c8, cs' = [cDl x y, cI K (D : Nat), cI K (sN D : Nat), tlW K ws, cD K (tI row), c5, c6, c7, c8] ∧ SuI D i ws row) ⟨ws, row, _, _, _, _, rfl, I⟩ ?_ ?_
  · rintro B1 sB N i cs' ⟨hN0, hN⟩ hi ⟨ws, row, c5, c6, c7, c8, rfl, I⟩
    have hi3 : i < sN D := by omega
    refine gs_asg (R := isI K (fun s => s = 1 ∨ s = -1)) (ev_pick (k := 0) (x := x) (y := y) rfl (ev_varP rfl cDl_pin) (ea_iC (ev_ci (.inl rfl)) (ea_iC (ev_ii ((ev_neg (K := K) (ev_int (n := 1))).il (m := -1) rfl) (.inr rfl)) ea_i0)) (by decide) (by decide)) fun c r => ?_
    obtain ⟨s, rfl, hs⟩ := r
    refine gs_asgN (ev_drawn (Q := PrQ) (D := D) (x := x) (y := y) (k := 0) hD rfl (ev_varP rfl cDl_pin) (ev_var (d := .int (D : Nat)) rfl)) fun c r => ?_
    obtain ⟨mw, ot, rfl, q⟩ := r
    refine ⟨_, _, tgC2, ?_⟩
    obtain ⟨g, hg⟩ : ∃ g : List Nat, (g = [43] ∧ s = 1) ∨ (g = [45] ∧ s = -1) := by
      rcases hs with rfl | rfl
      · exact ⟨_, .inl ⟨rfl, rfl⟩⟩
      · exact ⟨_, .inr ⟨rfl, rfl⟩⟩
    have l0 : wP D + 3 ≤ 20000 ∧ 3 + (i + 1) * (wP D + 3) ≤ 20000 := by
      have := bb.2.2.2.2.2.2.2.1
      unfold wS at this
      have e : wP D + 3 ≤ (sN D + 1) * (wP D + 3) := Nat.le_mul_of_pos_left _ (Nat.succ_pos _)
      have e2 : (i + 1) * (wP D + 3) ≤ (sN D + 1) * (wP D + 3) := Nat.mul_le_mul_right _ (by omega)
      omega
    have l1 := lw q.1.wt
    have l2 := lw I.wt
    have qb := bdBB q.1.bd (by omega)
    have ql := q.1.len
    have rl := I.len
    have sb : s.natAbs < 2 ^ BB := by
      rcases hs with rfl | rfl
      · exact one_b
      · exact mone_b
    exact go_parG (ea2 (R1 := Is (tlW K (ws ++ [g] ++ mw))) (R2 := Is (cD K (tI (addI row ot s)))) (ev_catW (ev_catW (ev_varTL rfl) (ev_lsW (ws := [g]) (ev_lst (ds := [strD g]) (ea_cons (ev_if (b := decide (s = 1)) (et_test (ev_eqI (ev_var (d := .int s) rfl) (ev_int (n := 1)))) (fun h => by
          have h := of_decide_eq_true h
          rcases hg with ⟨rfl, _⟩ | ⟨_, e⟩
          · exact ev_litT (by decide +kernel)
          · rw [h] at e; cases e) (fun h => by
          have h := of_decide_eq_false h
          rcases hg with ⟨_, e⟩ | ⟨rfl, _⟩
          · exact absurd e h
          · exact ev_litT (by decide +kernel))) ea_nil) (by simp))) (by simp; omega)) (ev_varTL rfl) (by simp; omega)) (ev_callP (RS.mk row ot s) (RS.is (by omega) (by omega) sb qb) (ea_cons (ev_var rfl) (ea_cons (ev_var rfl) (ea_cons (ev_var rfl) ea_nil))))) fun c1 c2 ⟨e1, e2⟩ => by
      subst e1 e2
      exact go_mid ⟨_, _, _, _, _, _, rfl, su_step hD hi3 hg I q⟩
  · rintro N cs' ⟨hN0, hN⟩ ⟨ws, row, c5, c6, c7, c8, rfl, I⟩
    have q := su_end hD (by omega) I
    refine go_ret (R := isDr K (SuQ D)) (ev_dr (ev_varTL rfl) (ev_var rfl) q) fun c r => ?_
    obtain ⟨ws, row, rfl, q⟩ := r
    exact rt' _ q
theorem ok_sum2 (T : Txt K mg a d) : FnOk P w K mg base CX0 7 a._law_sum d._law_sum ["deal", "deep", "most"] (spSu K 2) :=
  ok__law_sum (k := 6) (by decide) (ok__law_product (k := 5) (by decide) (ok__law_atom (k := 4) (by decide) (ok_noSu 4 3 (by decide)) T) T) T
theorem ok_sum1 (T : Txt K mg a d) : FnOk P w K mg base CX0 10 a._law_sum d._law_sum ["deal", "deep", "most"] (spSu K 1) :=
  ok__law_sum (k := 9) (by decide) (ok__law_product (k := 8) (by decide) (ok__law_atom (k := 7) (by decide) (ok_sum2 T) T) T) T
theorem ok_sum0 (T : Txt K mg a d) : FnOk P w K mg base CX0 13 a._law_sum d._law_sum ["deal", "deep", "most"] (spSu K 0) :=
  ok__law_sum (k := 12) (by decide) (ok__law_product (k := 11) (by decide) (ok__law_atom (k := 10) (by decide) (ok_sum1 T) T) T) T
end
end Y
namespace Y
open PySem L2 Z M StX
section
variable {P : Program} {w : World} {K : PySem.W.Frag} {mg : Str → Option Value} {base : Heap} {a : Ad} {d : Fd}
theorem wsx_join : ∀ (ws : List (List Nat)) (t : List Nat) (pre : List (List Nat)), WSx t pre → (∀ w ∈ ws, wordOk w) → ws ≠ [] → WSx (t ++ ([32] ++ TL.joinL [32] ws)) (pre ++ ws)
  | [], _, _, _, _, h => absurd rfl h
  | [p], t, pre, S, hw, _ => by
    have q := opn_blank (b := [32]) S (by decide) (by simp) p (hw p (List.mem_cons_self ..))
    show WSx (t ++ ([32] ++ p)) (pre ++ [p])
    rw [← List.append_assoc]
    exact q
  | p :: q :: r, t, pre, S, hw, _ => by
    have h1 := opn_blank (b := [32]) S (by decide) (by simp) p (hw p (List.mem_cons_self ..))
    have h2 := wsx_join (q :: r) _ _ h1 (fun w hm => hw w (List.mem_cons_of_mem _ hm)) (by simp)
    show WSx (t ++ ([32] ++ (p ++ ([32] ++ TL.joinL [32] (q :: r))))) (pre ++ (p :: q :: r))
    have e1 : t ++ ([32] ++ (p ++ ([32] ++ TL.joinL [32] (q :: r)))) = t ++ [32] ++ p ++ ([32] ++ TL.joinL [32] (q :: r)) := by simp
    have e2 : pre ++ (p :: q :: r) = pre ++ [p] ++ (q :: r) := by simp
    rw [e1, e2]
    exact h2
theorem join_tokens {p : List Nat} {ws : List (List Nat)} (hw : ∀ w ∈ p :: ws, wordOk w) : tokens (TL.joinL [32] (p :: ws)) = p :: ws := by
  have h0 : WSx ([] ++ p) ([] ++ [p]) := opn_start p (hw p (List.mem_cons_self ..))
  have q : WSx (TL.joinL [32] (p :: ws)) (p :: ws) := by
    cases ws with
    | nil => exact h0
    | cons v r => exact wsx_join (v :: r) _ _ h0 (fun w hm => hw w (List.mem_cons_of_mem _ hm)) (by simp)
  obtain ⟨f, r, S⟩ := q
  have := ws_end (b := []) S (fun _ h => nomatch h)
  rwa [List.append_nil] at this
theorem join_low : ∀ ws : List (List Nat), (∀ w ∈ ws, low w) → low (TL.joinL [32] ws)
  | [], _ => low_nil
  | [p], h => h p (List.mem_cons_self ..)
  | p :: q :: r, h => low_app (h p (List.mem_cons_self ..)) (low_app (low_one (by decide)) (join_low (q :: r) fun w hm => h w (List.mem_cons_of_mem _ hm)))
theorem join_len {n : Nat} : ∀ ws : List (List Nat), (∀ w ∈ ws, w.length ≤ n) → (TL.joinL [32] ws).length ≤ ws.length * (n + 1)
  | [], _ => Nat.zero_le _
  | [p], h => by
    have := h p (List.mem_cons_self ..)
    show p.length ≤ 1 * (n + 1)
    omega
  | p :: q :: r, h => by
    have h1 := h p (List.mem_cons_self ..)
    have h2 := join_len (q :: r) fun w hm => h w (List.mem_cons_of_mem _ hm)
    have e : (p :: q :: r).length * (n + 1) = (q :: r).length * (n + 1) + (n + 1) := by
      show ((q :: r).length + 1) * (n + 1) = _
      exact Nat.succ_mul _ _
    show (p ++ ([32] ++ TL.joinL [32] (q :: r))).length ≤ _
    rw [e, List.length_append, List.length_append, List.length_singleton]
    omega
/-- the words of a function's text -/
def hwW (l : List Nat) : List (List Nat) := hoursT :: l.map nT
theorem hw_ok {l : List Nat} (hz : ∀ z ∈ l, z < 1000) : ∀ w ∈ hwW l, wordOk w ∧ low w ∧ w.length ≤ 5 := fun w hw => by
  rcases List.mem_cons.mp hw with rfl | h
  · exact ⟨.inr ⟨by decide, by decide⟩, fun c hc => by simp [hoursT] at hc; omega, by decide⟩
  · obtain ⟨z, hz', rfl⟩ := List.mem_map.mp h
    exact ⟨nT_word z, nT_low z, Nat.le_trans (TL.numL_len (k := 3) (by decide) (by have := hz z hz'; omega)) (by decide)⟩
theorem hw_WOK {l : List Nat} (hl : l.length ≤ 600) (hz : ∀ z ∈ l, z < 1000) : WOK (hwW l) := by
  refine ⟨fun w h => ⟨(hw_ok hz w h).1, (hw_ok hz w h).2.1⟩, ?_⟩
  have q := sum_le (fun x : List Nat => x.length) 5 (hwW l) fun w h => (hw_ok hz w h).2.2
  have e : (hwW l).length = l.length + 1 := by
    show (l.map nT).length + 1 = _
    rw [List.length_map]
  show ((hwW l).map List.length).sum + 2 * (hwW l).length + 4 ≤ 20000
  have q2 : ((hwW l).map List.length).sum ≤ 5 * (hwW l).length := q
  omega
theorem hw_read {m : Nat} {l t : List Nat} (h0 : 0 < m) (h1 : m ≤ 600) (hl : l.length = m) (hz : ∀ z ∈ l, z < m) (ht : tokens t = hwW l) (lo : low t) (tl : t.length ≤ 20000) : RF.ok (RF.mk m t (l.map nT)) := by
  refine ⟨h0, h1, tl, lo, ht, by rw [List.length_map]; exact hl, fun w hw => ?_⟩
  obtain ⟨z, hz', rfl⟩ := List.mem_map.mp hw
  have := hz z hz'
  exact ⟨nT_B z, TL.numL_len (k := 3) (by decide) (by omega), by rw [numV_nT]; exact this⟩
theorem hw_vals (l : List Nat) : (l.map nT).map (fun t => (numV t : Int)) = l.map fun z : Nat => (z : Int) := by
  rw [List.map_map]
  refine List.map_congr_left fun z _ => ?_
  show (numV (nT z) : Int) = z
  rw [numV_nT]
/-- brackets within brackets -/
def dW : Nat → List (List Nat)
  | 0 => [[120]]
  | n + 1 => [40] :: (dW n ++ [[41]])
theorem okx : okR [0, 1] := ⟨by decide, bdBB bd_x (by decide)⟩
theorem dW_hd (n : Nat) : hdOk (dW n) := by
  cases n with
  | zero => exact ⟨by decide, by decide⟩
  | succ n => exact ⟨Nat.succ_pos _, by show ([40] : List Nat) ≠ [45]; decide⟩
theorem rd_up {At : Rel} {ws : List (List Nat)} (h : Rd At [] ws [0, 1]) (hd : hdOk ws) : Rd (SumOf (ProdOf (PowOf At))) [[94], [42], [43], [45]] ws [0, 1] := by
  have q := rdS_end (rdS_one (rdP_end (rdP_one (rd_pow0 h))) okx hd.1 hd.2)
  have e : addI [] [0, 1] 1 = [0, 1] := by decide
  rw [e] at q
  exact q
theorem rd_dW : ∀ n, n ≤ 20 → Rd (SumN n) [[94], [42], [43], [45]] (dW n) [0, 1]
  | 0, _ => rd_up (rd_x okx) (dW_hd 0)
  | n + 1, h => rd_up (rd_br (by omega) (rd_dW n (by omega)) okx) (dW_hd (n + 1))
def deepT : List Nat := List.replicate 20 40 ++ [120] ++ List.replicate 20 41
theorem deep_tokens : tokens deepT = dW 20 := by decide +kernel
theorem deep2_tokens : tokens ([45] ++ deepT ++ [94, 50]) = [45] :: (dW 20 ++ [[94], [50]]) := by decide +kernel
theorem deep_low : low deepT := fun c hc => by
  simp [deepT] at hc
  omega
theorem rd_deep : Reads_ deepT [0, 1] := rd_all (rd_dW 20 (Nat.le_refl _)) deep_tokens deep_low (by decide)
theorem rd_deep2 : Reads_ ([45] ++ deepT ++ [94, 50]) [0, 0, -1] := by
  refine rd_all (ws := [45] :: (dW 20 ++ [[94], [50]])) ?_ deep2_tokens (low_app (low_app (low_one (by decide)) deep_low) (fun c hc => by simp at hc; omega)) (by decide)
  have at_ : Rd (AtomOf 0 (SumN 19)) [] (dW 20) [0, 1] := rd_br (by decide) (rd_dW 19 (by decide)) okx
  have p := rd_powk (w := [50]) at_ okx (by decide) (by decide) (by decide) (fun k hk => by
    have hk : k ≤ 2 := hk
    have e : powI [0, 1] k = mono 1 k := powI_x k
    rw [e]
    exact okR_mono (by decide +kernel) (by omega))
  have e : powI [0, 1] (numV [50]) = [0, 0, 1] := by decide
  rw [e] at p
  have ok2 : okR [0, 0, 1] := okR_mono (m := 1) (e := 2) (by decide +kernel) (by decide)
  have s := rdS_end (rdS_neg (rdP_end (rdP_one p)) ok2)
  have e2 : addI [] [0, 0, 1] (-1) = [0, 0, -1] := by decide
  rw [e2] at s
  exact s
theorem rd_zero : Reads_ [48, 94, 48] [1] := by
  refine rd_all (ws := [48] :: [[94], [48]]) ?_ (by decide) (fun c hc => by simp at hc; omega) (by decide)
  have ok0 : okR [] := ⟨by decide, Bd.nil⟩
  have n : Rd (AtomOf 0 (SumN 19)) [] [[48]] [] := rd_num (D := 0) (S := SumN 19) (w := [48]) (by decide) (by decide) ok0
  have ok1 : okR [1] := okR_mono (m := 1) (e := 0) (by decide +kernel) (by decide)
  have p := rd_powk (w := [48]) n ok0 (by decide) (by decide) (by decide) (fun k hk => by
    have hk : k ≤ 0 := hk
    have e : k = 0 := by omega
    subst e
    exact ok1)
  have e : powI [] (numV [48]) = [1] := by decide
  rw [e] at p
  have s := rdS_end (rdS_one (rdP_end (rdP_one p)) ok1 (by decide) (by decide))
  have e2 : addI [] [1] 1 = [1] := by decide
  rw [e2] at s
  exact s
theorem plain_form {l : List Int} (hl : l.length ≤ 61) (hb : ∀ z ∈ l, z.natAbs < 10 ^ 60) : (if fG (trimI l) (trimI l).length = [] then [48] else fG (trimI l) (trimI l).length) = formT l := by
  unfold formT
  by_cases h : trimI l = []
  · rw [if_pos h, h]
    rfl
  · rw [if_neg h, if_neg (form_ne hl hb h)]
theorem formT_low (l : List Int) (hl : l.length ≤ 61) (hb : Bd 300 l) : low (formT l) ∧ (formT l).length ≤ 20000 := by
  have h2 := trim_len l
  unfold formT
  split
  · exact ⟨low_one (by decide), by decide⟩
  · refine ⟨fG_low _ _, Nat.le_trans (fG_len (Nat.le_trans h2 hl) hb.trim _) (by omega)⟩
section
variable {cs : List Cell} {x y : Addr} {k : Nat} {td tb te tw : TE} {ta : TA} {E E' : XK}
theorem ev_callP0 {I : Type} {A : I → List Cell} {Po : I → List Cell → Cell → Prop} {R : Cell → Prop} {ta : TA} (i : I) {as : List Cell} (hA : A i = as) (h : EvA ta cs (fun x => x = as)) (hr : ∀ cs' c', Po i cs' c' → cs' = as.map (fun _ => cNo) ∧ R c') : Ev (tCall (spR A Po) [] E ta) cs R := fun B0 F0 ts us σ H hl S Q q =>
  h B0 F0 ts us σ H hl S _ fun as' vs H1 r hv S1 => by
    subst r
    show spR _ _ (vs ++ []) H1 Q E
    rw [List.append_nil]
    refine call_sim i (by rw [hA]; exact hv) (by rw [hA]; exact S1) fun v cs' c' H' po S2 => ?_
    obtain ⟨e1, e2⟩ := hr cs' c' po
    subst e1
    exact q _ v H' e2 (Sim.cut (xs := as'.map fun _ => cNo) (ys := vs.map some) (by rw [List.length_map, List.length_map, hv]) S2)
theorem ev_written {ws : List (List Nat)} (hw : WOK ws) (hk : cs[k]? = some (cDl x y)) (hd : Ev td cs (Is (cV (.ref x)))) (h : Ev tw cs (Is (cD K (.list (ws.map strD))))) : Ev (tCall (spWr K) [] E (tCons td (tCons tw tNil))) cs (isTx K (fun t => tokens t = ws ∧ low t ∧ t.length ≤ 20000)) :=
  ev_callK1 (I := {x : Addr × Addr × List (List Nat) // WOK x.2.2}) ⟨(x, y, ws), hw⟩ k hk cDl_pin rfl (ea_cons hd (ea_cons h ea_nil)) fun cs' c' po => ⟨po.2, by
    obtain ⟨t, e, h1, h2, h3⟩ := po.1
    exact ⟨_, e, t, rfl, h1, h2, h3⟩⟩
theorem ev_readN {row : List Int} {P : List Nat → Prop} (h : Ev te cs (isTx K P)) (hp : ∀ t, P t → Reads_ t row) : Ev (tCall (spP K (fun i : List Nat × List Int => Reads_ i.1 i.2) (fun i => [strD i.1]) (fun i => tI i.2)) [] E (tCons te tNil)) cs (Is (cD K (tI row))) :=
  (ev_callN (P := fun i : {i : List Nat × List Int // Reads_ i.1 i.2} => i.1.2 = row) ((ea_consN h ea_nil).imp fun as ⟨c, r, e1, ⟨d, e2, t, e3, p⟩, e4⟩ => ⟨⟨(t, row), hp t p⟩, by rw [e1, e2, e3, e4]; rfl, rfl⟩)).imp fun c ⟨i, e, er⟩ => e.trans (congrArg (fun z => cD K (tI z)) er)
theorem ev_readW {ws : List (List Nat)} {row : List Int} (hw : WOK ws) (r : Rd (SumN 20) [[94], [42], [43], [45]] ws row) (hk : cs[k]? = some (cDl x y)) (hd : Ev td cs (Is (cV (.ref x)))) (h : Ev tw cs (Is (cD K (.list (ws.map strD))))) :
    Ev (tCall (spP K (fun i : List Nat × List Int => Reads_ i.1 i.2) (fun i => [strD i.1]) (fun i => tI i.2)) [] E (tCons (tCall (spWr K) [] E' (tCons td (tCons tw tNil))) tNil)) cs (Is (cD K (tI row))) :=
  ev_readN (ev_written hw hk hd h) fun t ⟨h1, h2, h3⟩ => rd_all r h1 h2 h3
theorem ev_read1 {l : List Nat} {row : List Int} (r : Reads_ l row) (h : Ev te cs (Is (cD K (strD l)))) : Ev (tCall (spP K (fun i : List Nat × List Int => Reads_ i.1 i.2) (fun i => [strD i.1]) (fun i => tI i.2)) [] E (tCons te tNil)) cs (Is (cD K (tI row))) := ev_callP (l, row) r (ea_cons h ea_nil)
theorem ev_rowP {n : Nat} (hk : cs[k]? = some (cDl x y)) (hd : Ev td cs (Is (cV (.ref x)))) (hb : Ev tb cs (isI K (fun z => 0 ≤ z ∧ z ≤ (n : Nat)))) (hn : n ≤ 100) : Ev (tCall (spRow K) [] E (tCons td (tCons tb tNil))) cs (fun c => ∃ ns : List Int, c = cD K (tI ns) ∧ ns.length ≤ n + 1 ∧ ∀ z ∈ ns, z.natAbs < 2 ^ 40) :=
  ev_callK (I := {x : Addr × Addr × Nat // x.2.2 ≤ 100}) k hk cDl_pin (fun i as => ∃ z : Nat, z ≤ n ∧ i.1 = (x, y, z) ∧ as = [cI K (z : Nat)]) (fun i as ⟨z, hz, e1, e2⟩ => by rw [e2, e1]) ((ea_consN hd (ea_consN hb ea_nil)).imp fun as ⟨c, r, e1, e2, c2, r2, e3, ⟨z, e4, h0, h1⟩, e5⟩ => by
    refine ⟨⟨(x, y, z.toNat), by show z.toNat ≤ 100; omega⟩, [cI K (z.toNat : Nat)], ?_, z.toNat, by omega, rfl, rfl⟩
    rw [e1, e2, e3, e4, e5, Int.toNat_of_nonneg h0])
    fun i as cs' c' ⟨z, hz, e1, e2⟩ po => by
      rw [e1] at po
      obtain ⟨⟨ns, h1, h2, h3⟩, h4⟩ := po
      refine ⟨by rw [h4, e2]; rfl, ns, h1, ?_, h3⟩
      have h2 : ns.length ≤ z + 1 := h2
      omega
theorem ev_smallP {n : Nat} (hk : cs[k]? = some (cDl x y)) (hd : Ev td cs (Is (cV (.ref x)))) (hb : Ev tb cs (isI K (fun z => 0 < z ∧ z ≤ (n : Nat)))) (hn : n ≤ 1000000) : Ev (tCall (spSmall K) [] E (tCons td (tCons tb tNil))) cs (isI K (fun r => 0 < r ∧ r ≤ (n : Int))) :=
  ev_callK (I := {x : Addr × Addr × Nat // 0 < x.2.2 ∧ x.2.2 ≤ 1000000}) k hk cDl_pin (fun i as => ∃ z : Nat, z ≤ n ∧ i.1 = (x, y, z) ∧ as = [cI K (z : Nat)]) (fun i as ⟨z, hz, e1, e2⟩ => by rw [e2, e1]) ((ea_consN hd (ea_consN hb ea_nil)).imp fun as ⟨c, r, e1, e2, c2, r2, e3, ⟨z, e4, h0, h1⟩, e5⟩ => by
    refine ⟨⟨(x, y, z.toNat), by show 0 < z.toNat; omega, by show z.toNat ≤ 1000000; omega⟩, [cI K (z.toNat : Nat)], ?_, z.toNat, by omega, rfl, rfl⟩
    rw [e1, e2, e3, e4, e5, Int.toNat_of_nonneg (by omega)])
    fun i as cs' c' ⟨z, hz, e1, e2⟩ po => by
      rw [e1] at po
      obtain ⟨⟨r, h1, h2, h3⟩, h4⟩ := po
      refine ⟨by rw [h4, e2]; rfl, r, h1, h2, ?_⟩
      have h3 : r ≤ ((z : Nat) : Int) := h3
      omega
theorem ev_joinW {ws : List (List Nat)} (h : Ev te cs (Is (cD K (.list (ws.map strD))))) (hl : ws.length ≤ 1000) (hw : ∀ w ∈ ws, w.length ≤ 5) {r : V → List V → Hp → VK → Prop} (hr : ∀ (H : Hp) (p : Addr) (Q : VK), SqL K H p ((ws.map SX.S).map V.str) → ((ws.map SX.S).map fun x : Str => x.length).sum + ws.length ≤ 100000 → Q (.str (Txt.join (SX.S [32]) (ws.map SX.S))) H → r (.str (SX.S [32])) [.ref p] H Q) (ht : Ev td cs (Is (cD K (strD [32])))) :
    Ev (tBM K "str" r td (tCons te tNil)) cs (Is (cD K (strD (TL.joinL [32] ws)))) := by
  refine (ev_join (x := SX.S [32]) (ss := ws.map SX.S) ht (by rw [List.map_map]; exact h) fun H p Q hs hq => hr H p Q hs ?_ hq).eq (congrArg PyData.str (SX.join_S [32] ws))
  have q := sum_le (fun x : Str => x.length) 5 (ws.map SX.S) fun z hz => by
    obtain ⟨t, ht, e⟩ := List.mem_map.mp hz
    rw [← e, SX.S_len]
    exact hw t ht
  rw [List.length_map] at q
  omega
end
theorem ok_ints {l : List Int} (h : l.length ≤ 1000) {n : Nat} : okD (n + 2) (tI l) = true := by
  show (decide ((l.map PyData.int).length ≤ 1000) && (l.map PyData.int).all (okD (n + 1))) = true
  rw [List.length_map, decide_eq_true h, Bool.true_and]
  exact List.all_eq_true.mpr fun d hd => by
    obtain ⟨z, _, e⟩ := List.mem_map.mp hd
    rw [← e]
    rfl
def cutM (z : Int) : Int := if 0 ≤ z then z % 10 ^ 59 else 0 - (0 - z) % 10 ^ 59
theorem cutM_lt (z : Int) : (cutM z).natAbs < 10 ^ 59 := by
  have h0 : (0 : Int) < 10 ^ 59 := by decide
  have e : ((10 ^ 59 : Nat) : Int) = 10 ^ 59 := by decide
  unfold cutM
  split
  · have h1 := Int.emod_nonneg z (Int.ne_of_gt h0)
    have h2 := Int.emod_lt_of_pos z h0
    omega
  · have h1 := Int.emod_nonneg (0 - z) (Int.ne_of_gt h0)
    have h2 := Int.emod_lt_of_pos (0 - z) h0
    omega
end
end Y
namespace Y
open PySem L2 Z M StX
section
variable {P : Program} {w : World} {K : PySem.W.Frag} {mg : Str → Option Value} {base : Heap} {a : Ad} {d : Fd}
def rJoin (K : PySem.W.Frag) : V → List V → Hp → VK → Prop := fun x xs H Q => ∃ a p, ∃ ys : List Str, x = .str a ∧ xs = [.ref p] ∧ (SqL K H p (ys.map V.str) ∨ SqT K H p (ys.map V.str)) ∧
    (ys.map (·.length)).sum + ys.length * a.length ≤ 16777216 ∧ Q (.str (Txt.join a ys)) H
theorem sc_law : FnScope ["script", "deal", "turn", "words", "row", "one", "told", "m", "table", "deep", "entry", "hour"] ["script"] (defScope (topS 57)) := ⟨rfl, rfl, rfl, by decide +kernel, rfl, by decide +kernel, by decide +kernel⟩
theorem ok_law (T : Txt K mg a d) : FnOk P w K mg base CX0 97 a.law d.law ["script"] (spP K (fun i : List Int => i.length ≤ 63) (fun i => [lI i]) (fun _ => .bool true)) := by
  refine T.F_law.ok sc_law (fun vs H Q E h => spD_len (n := 1) (fun _ => rfl) h) (fun cdv A outer s H vs Q E hr h => ?_)
  obtain ⟨i, B0, F0, rt, go⟩ := enterD (N := ["script", "deal", "turn", "words", "row", "one", "told", "m", "table", "deep", "entry", "hour"]) h
  refine ⟨_, (pss_cons (ps_set (i := 1) sc_law.nd rfl (Or.inr rfl) (pe_call (ok__law_draw T) (hr.mono (by decide)) rfl T.m__law_draw T.F__law_draw.kp T.b__law_draw .nil pass0 (pa_cons (pv 0) (pa_cons pe_int pa_nil))))
    (pss_cons (ps_for PassesOwn.never rfl (pi_range1 (by rfl) T.n_range (pa_cons pe_int pa_nil)) (pg_name (i := 2) sc_law.nd rfl (Or.inl rfl))
      (pss_cons (ps_asg (pe_call (ok_sum0 T) (hr.mono (by decide)) rfl T.m__law_sum T.F__law_sum.kp T.b__law_sum .nil pass0 (pa_cons (pv 1) (pa_cons pe_int (pa_cons pe_int pa_nil)))) (pg_tup rfl (pgs_cons (pg_name (i := 3) sc_law.nd rfl (Or.inl rfl)) (pgs_cons (pg_name (i := 4) sc_law.nd rfl (Or.inl rfl)) pgs_nil))))
      (pss_cons (ps_if (pt_not (pt_val (pe_call (ok__law_same T) (hr.mono (by decide)) rfl T.m__law_same T.F__law_same.kp T.b__law_same .nil pass0 (pa_cons (pe_callKW0 (ok_read_formula T) (hr.mono (by decide)) rfl T.m_read_formula T.F_read_formula.kp T.kb_read_formula pass0 (pk_cons (pe_call (ok__law_written T) (hr.mono (by decide)) rfl T.m__law_written T.F__law_written.kp T.b__law_written .nil pass0 (pa_cons (pv 1) (pa_cons (pv 3) pa_nil))) pk_nil)) (pa_cons (pv 4) pa_nil)))))
        (pss_one (ps_ret pe_bl))
        pss_nil)
      (pss_cons (ps_set (i := 5) sc_law.nd rfl (Or.inl rfl) (pe_call (ok__law_row T) (hr.mono (by decide)) rfl T.m__law_row T.F__law_row.kp T.b__law_row .nil pass0 (pa_cons (pv 1) (pa_cons (pe_call (ok__law_of T) (hr.mono (by decide)) rfl T.m__law_of T.F__law_of.kp T.b__law_of .nil pass0 (pa_cons (pv 1) (pa_cons (pe_lst (pa_cons pe_int (pa_cons pe_int (pa_cons pe_int pa_nil)))) pa_nil))) pa_nil))))
      (pss_cons (ps_set (i := 5) sc_law.nd rfl (Or.inl rfl) (pe_callTy call_tuple_of (by rfl) T.n_tuple (by decide +kernel) (pa_cons (pe_lc (own := [("entry", 10)]) (g := (gName 10)) rfl sc_law.nd (pi_tup (pv 5)) (blkOk_by (own := [("entry", 10)]) (N := ["script", "deal", "turn", "words", "row", "one", "told", "m", "table", "deep", "entry", "hour"]) (sc := defScope (topS 57)) (by decide +kernel)) (fun _ _ _ _ _ => (pg_name (i := 10) sc_law.nd rfl (Or.inl rfl))) (fun _ _ _ _ _ => pts_nil) (fun _ _ _ _ _ => (pe_ifExp (pt_cmpR op_ge (pv 10) pe_int (nomark _)) (pe_op op_mod (pe_callTy call_int1 (by rfl) T.n_int (by decide +kernel) (pa_cons (pv 10) pa_nil)) (pe_op op_pow pe_int pe_int)) (pe_op op_sub pe_int (pe_op op_mod (pe_callTy call_int1 (by rfl) T.n_int (by decide +kernel) (pa_cons (pe_op op_sub pe_int (pv 10)) pa_nil)) (pe_op op_pow pe_int pe_int)))))) pa_nil)))
      (pss_cons (ps_set (i := 6) sc_law.nd rfl (Or.inl rfl) (pe_callKW0 (ok_formula_text T) (hr.mono (by decide)) rfl T.m_formula_text T.F_formula_text.kp T.kb_formula_text pass0 (pk_cons (pv 5) pk_nil)))
      (pss_cons (ps_if (PW.pt (pw_or (pt_not (pt_val (pe_call (ok__law_same T) (hr.mono (by decide)) rfl T.m__law_same T.F__law_same.kp T.b__law_same .nil pass0 (pa_cons (pv 6) (pa_cons (pe_call (ok__law_plain_text T) (hr.mono (by decide)) rfl T.m__law_plain_text T.F__law_plain_text.kp T.b__law_plain_text .nil pass0 (pa_cons (pe_call (ok__law_trimT T) (hr.mono (by decide)) rfl T.m__law_trim T.F__law_trim.kp T.b__law_trim .nil pass0 (pa_cons (pv 5) pa_nil)) pa_nil)) pa_nil))))) (pw_or1 (pt_not (pt_val (pe_call (ok__law_same T) (hr.mono (by decide)) rfl T.m__law_same T.F__law_same.kp T.b__law_same .nil pass0 (pa_cons (pe_call (ok_read_formula T) (hr.mono (by decide)) rfl T.m_read_formula T.F_read_formula.kp T.b_read_formula .nil pass0 (pa_cons (pv 6) pa_nil)) (pa_cons (pe_call (ok__law_trimT T) (hr.mono (by decide)) rfl T.m__law_trim T.F__law_trim.kp T.b__law_trim .nil pass0 (pa_cons (pv 5) pa_nil)) pa_nil))))))))
        (pss_one (ps_ret pe_bl))
        pss_nil)
      (pss_cons (ps_if (pt_not (pt_val (pe_call (ok__law_same T) (hr.mono (by decide)) rfl T.m__law_same T.F__law_same.kp T.b__law_same .nil pass0 (pa_cons (pe_call (ok_read_formula T) (hr.mono (by decide)) rfl T.m_read_formula T.F_read_formula.kp T.b_read_formula .nil pass0 (pa_cons (pe_call (ok__law_written T) (hr.mono (by decide)) rfl T.m__law_written T.F__law_written.kp T.b__law_written .nil pass0 (pa_cons (pv 1) (pa_cons (pe_call (ok__law_tokens T) (hr.mono (by decide)) rfl T.m__law_tokens T.F__law_tokens.kp T.b__law_tokens .nil pass0 (pa_cons (pv 6) pa_nil)) pa_nil))) pa_nil)) (pa_cons (pe_call (ok__law_trimT T) (hr.mono (by decide)) rfl T.m__law_trim T.F__law_trim.kp T.b__law_trim .nil pass0 (pa_cons (pv 5) pa_nil)) pa_nil)))))
        (pss_one (ps_ret pe_bl))
        pss_nil)
      (pss_cons (ps_set (i := 7) sc_law.nd rfl (Or.inr rfl) (pe_call (ok__law_small_clock T) (hr.mono (by decide)) rfl T.m__law_small_clock T.F__law_small_clock.kp T.b__law_small_clock .nil pass0 (pa_cons (pv 1) (pa_cons (pe_call (ok__law_of T) (hr.mono (by decide)) rfl T.m__law_of T.F__law_of.kp T.b__law_of .nil pass0 (pa_cons (pv 1) (pa_cons (pe_lst (pa_cons pe_int (pa_cons pe_int pa_nil))) pa_nil))) pa_nil))))
      (pss_cons (ps_set (i := 8) sc_law.nd rfl (Or.inl rfl) (pe_callTy call_tuple_of (by rfl) T.n_tuple (by decide +kernel) (pa_cons (pe_lc (own := [("hour", 11)]) (g := (gName 11)) rfl sc_law.nd (pi_range1 (by rfl) T.n_range (pa_cons (pv 7) pa_nil)) (blkOk_by (own := [("hour", 11)]) (N := ["script", "deal", "turn", "words", "row", "one", "told", "m", "table", "deep", "entry", "hour"]) (sc := defScope (topS 57)) (by decide +kernel)) (fun _ _ _ _ _ => (pg_name (i := 11) sc_law.nd rfl (Or.inl rfl))) (fun _ _ _ _ _ => pts_nil) (fun _ _ _ _ _ => (pe_call (ok__law_any T) (hr.mono (by decide)) rfl T.m__law_any T.F__law_any.kp T.b__law_any .nil pass0 (pa_cons (pv 1) (pa_cons (pv 7) pa_nil))))) pa_nil)))
      (pss_cons (ps_set (i := 3) sc_law.nd rfl (Or.inl rfl) (pe_op op_cat (pe_lst (pa_cons pe_str pa_nil)) (pe_lc (own := [("hour", 11)]) (g := (gName 11)) rfl sc_law.nd (pi_tup (pv 8)) (blkOk_by (own := [("hour", 11)]) (N := ["script", "deal", "turn", "words", "row", "one", "told", "m", "table", "deep", "entry", "hour"]) (sc := defScope (topS 57)) (by decide +kernel)) (fun _ _ _ _ _ => (pg_name (i := 11) sc_law.nd rfl (Or.inl rfl))) (fun _ _ _ _ _ => pts_nil) (fun _ _ _ _ _ => (pe_callTy call_str_int (by rfl) T.n_str (by decide +kernel) (pa_cons (pv 11) pa_nil))))))
      (pss_cons (ps_if (pt_not (pt_val (pe_call (ok__law_same T) (hr.mono (by decide)) rfl T.m__law_same T.F__law_same.kp T.b__law_same .nil pass0 (pa_cons (pe_callKW0 (ok_function_text T) (hr.mono (by decide)) rfl T.m_function_text T.F_function_text.kp T.kb_function_text pass0 (pk_cons (pv 8) pk_nil)) (pa_cons (pe_bm PySem.F.plainAttrs_str PySem.F.slot_str_join PySem.F.type_str_join mt_join pe_str (pa_cons (pv 3) pa_nil)) pa_nil)))))
        (pss_one (ps_ret pe_bl))
        pss_nil)
      (pss_one (ps_if (pt_not (pt_val (pe_call (ok__law_same T) (hr.mono (by decide)) rfl T.m__law_same T.F__law_same.kp T.b__law_same .nil pass0 (pa_cons (pe_lst (pa_cons (pe_callKW0 (ok_read_function T) (hr.mono (by decide)) rfl T.m_read_function T.F_read_function.kp T.kb_read_function pass0 (pk_cons (pv 7) (pk_cons (pe_bm PySem.F.plainAttrs_str PySem.F.slot_str_join PySem.F.type_str_join mt_join pe_str (pa_cons (pv 3) pa_nil)) pk_nil))) (pa_cons (pe_call (ok_read_function T) (hr.mono (by decide)) rfl T.m_read_function T.F_read_function.kp T.b_read_function .nil pass0 (pa_cons (pv 7) (pa_cons (pe_call (ok__law_written T) (hr.mono (by decide)) rfl T.m__law_written T.F__law_written.kp T.b__law_written .nil pass0 (pa_cons (pv 1) (pa_cons (pv 3) pa_nil))) pa_nil))) pa_nil))) (pa_cons (pe_lst (pa_cons (pv 8) (pa_cons (pv 8) pa_nil))) pa_nil)))))
        (pss_one (ps_ret pe_bl))
        pss_nil))))))))))))))
    (pss_cons (ps_set (i := 9) sc_law.nd rfl (Or.inl rfl) (pe_op op_add_str (pe_op op_add_str (pe_op op_mulS pe_str pe_int) pe_str) (pe_op op_mulS pe_str pe_int)))
    (pss_one (ps_ret (pe_call (ok__law_same T) (hr.mono (by decide)) rfl T.m__law_same T.F__law_same.kp T.b__law_same .nil pass0 (pa_cons (pe_lst (pa_cons (pe_call (ok_formula_text T) (hr.mono (by decide)) rfl T.m_formula_text T.F_formula_text.kp T.b_formula_text .nil pass0 (pa_cons (pe_tup (pa_cons pe_int (pa_cons pe_int pa_nil))) pa_nil)) (pa_cons (pe_call (ok_read_formula T) (hr.mono (by decide)) rfl T.m_read_formula T.F_read_formula.kp T.b_read_formula .nil pass0 (pa_cons pe_str pa_nil)) (pa_cons (pe_call (ok_read_formula T) (hr.mono (by decide)) rfl T.m_read_formula T.F_read_formula.kp T.b_read_formula .nil pass0 (pa_cons (pv 9) pa_nil)) (pa_cons (pe_call (ok_read_formula T) (hr.mono (by decide)) rfl T.m_read_formula T.F_read_formula.kp T.b_read_formula .nil pass0 (pa_cons (pe_op op_add_str (pe_op op_add_str pe_str (pv 9)) pe_str) pa_nil)) pa_nil))))) (pa_cons (pe_lst (pa_cons pe_str (pa_cons (pe_tup (pa_cons pe_int pa_nil)) (pa_cons (pe_tup (pa_cons pe_int (pa_cons pe_int pa_nil))) (pa_cons (pe_tup (pa_cons pe_int (pa_cons pe_int (pa_cons (pe_un un_neg pe_int) pa_nil)))) pa_nil))))) pa_nil)))))))), go _ ?_⟩
  obtain ⟨s0, hs0⟩ := i
  have hs0 : s0.length ≤ 63 := hs0
  have rt' : ∀ cs, 1 ≤ cs.length → RtOk B0 F0 (cB K true :: cs) Q := fun cs hl => rt cs hl
  clear rt
  refine gs_asg (R := fun c => ∃ x y, c = cDl x y) (ev_callP0 (I := {x : List Int × Int // x.1.length ≤ 1000 ∧ 0 ≤ x.2 ∧ x.2 ≤ 1000}) ⟨(s0, 79), (show s0.length ≤ 1000 by omega), (by decide : (0 : Int) ≤ 79), (by decide : (79 : Int) ≤ 1000)⟩ rfl (ea_cons (ev_var rfl) (ea_cons ev_int ea_nil)) fun cs' c' po => ⟨po.2, po.1⟩) fun c r => ?_
  obtain ⟨x, y, rfl⟩ := r
  refine gs_for (js := [2]) (ei_rng1 (K := K) (n := 4) (ev_int (n := 4)) (by decide)) (fun i cs' => ∃ c2 c3 c4 c5 c6 c7 c8 c9, cs' = [cD K (lI s0), cDl x y, c2, c3, c4, c5, c6, c7, c8, c9, cNo, cNo]) ⟨_, _, _, _, _, _, _, _, rfl⟩ ?_ ?_
  · rintro B1 sB i c cs' hi rfl ⟨c2, c3, c4, c5, c6, c7, c8, c9, rfl⟩
    refine ⟨_, tg_name, ?_⟩
    -- a drawn sum
    refine gs_asgN (ev_sumD (D := 0) (x := x) (y := y) (k := 1) (by decide) rfl (ev_varP rfl cDl_pin) (ev_int (n := 0)) ((ev_int (n := 4)).il rfl)) fun c r => ?_
    obtain ⟨ws, row, rfl, q⟩ := r
    refine ⟨_, _, tgC2, ?_⟩
    have rl := q.len
    have wok : WOK ws := ⟨q.all, by
      have h1 := q.wt
      have h2 := (bnds (D := 0) (by decide)).2.2.2.2.2.2.2.1
      unfold wt at h1
      omega⟩
    refine gs_skip (et_is (et_not (et_B (ev_callP (tI row) (ok_ints (by omega)) (ea_cons (ev_readW wok q.rd (k := 1) (x := x) (y := y) rfl (ev_varP rfl cDl_pin) (ev_varTL rfl).tl) (ea_cons (ev_var rfl) ea_nil))))) rfl) ?_
    clear rl wok q
    -- a drawn row
    refine gs_asg (ev_rowP (n := 60) (k := 1) (x := x) (y := y) rfl (ev_varP rfl cDl_pin) (ev_pick (k := 1) (x := x) (y := y) rfl (ev_varP rfl cDl_pin) (ea_iC (ev_ci (by decide)) (ea_iC (ev_ci (by decide)) (ea_iC (ev_ci (by decide)) ea_i0))) (by decide) (by decide)) (by decide)) fun c r => ?_
    obtain ⟨ns, rfl, nl, _⟩ := r
    have h59 : (10 : Int) ^ (59 : Int).toNat = 10 ^ 59 := rfl
    refine gs_set (c := cD K (tI (ns.map cutM))) (ev_tupleL (ds := (ns.map cutM).map .int) (Ev.rd (Ev.freeze (Ev.own (ev_lc1A ns PyData.int (fun z => .int (cutM z)) (ei_tup (ds := ns.map .int) (ev_var rfl)) (by rw [List.length_map]) (fun i c h => item_ints h) rfl (by omega) fun z _ => ?_) (by rw [List.map_map]; rfl))))) ?_
    · refine ev_if (b := decide (0 ≤ z)) ((et_test (ev_cmp2 (g := fun i j => decide (i ≥ j)) (ev_var (d := .int z) rfl) (ev_int (n := 0)))).imp fun b e => e) (fun h => ?_) (fun h => ?_)
      · refine (ev_int2 (C := fun _ j => 0 < j) (ev_int1 (ev_var (d := .int z) rfl)) (ev_powc (K := K) h59 ⟨by decide, by decide, by decide⟩) (by decide)).il ?_
        unfold cutM
        rw [if_pos (of_decide_eq_true h)]
      · refine (ev_int20 (ev_int (K := K) (n := 0)) (ev_int2 (C := fun _ j => 0 < j) (ev_int1 (ev_int20 (ev_int (K := K) (n := 0)) (ev_var (d := .int z) rfl))) (ev_powc (K := K) h59 ⟨by decide, by decide, by decide⟩) (by decide))).il ?_
        unfold cutM
        rw [if_neg (of_decide_eq_false h)]
    have ol : (ns.map cutM).length ≤ 61 := by rw [List.length_map]; omega
    have ob : ∀ z ∈ ns.map cutM, z.natAbs < 10 ^ 59 := fun z hz => by
      obtain ⟨w, _, e⟩ := List.mem_map.mp hz
      rw [← e]
      exact cutM_lt w
    generalize ns.map cutM = one at ol ob
    have ob60 : ∀ z ∈ one, z.natAbs < 10 ^ 60 := fun z hz => Nat.lt_trans (ob z hz) (by decide +kernel)
    have ob300 : Bd 300 one := fun z hz => Nat.lt_trans (ob z hz) (by decide +kernel)
    clear ob
    have tl := trim_len one
    obtain ⟨flo, fln⟩ := formT_low one ol ob300
    refine gs_set (c := cD K (strD (formT one))) (ev_callP one ⟨ol, ob300⟩ (ea_cons (ev_var rfl) ea_nil)) ?_
    have trm : ∀ {c3 c4 c7 c8 c9 : Cell} , Ev (tCall (spD K (fun i : List Int => [tI i]) (fun i => tI (trimI i))) [] E0 (tCons (tVar 5) tNil)) [cD K (lI s0), cDl x y, cI K (i : Nat), c3, c4, cD K (tI one), cD K (strD (formT one)), c7, c8, c9, cNo, cNo] (Is (cD K (tI (trimI one)))) := ev_call one (ea_cons (ev_var rfl) ea_nil)
    have okt : okD 6 (tI (trimI one)) = true := ok_ints (by omega)
    refine gs_skip (et_is (et_or (a := false) (b := false) (et_is (et_not (et_B (ev_callP (strD (formT one)) (lay_S flo) (ea_cons (ev_var rfl) (ea_cons ((ev_callP (trimI one) ⟨by omega, ob300.trim⟩ (ea_cons trm ea_nil)).eq (congrArg strD (plain_form ol ob60))) ea_nil))))) rfl) fun _ => et_is (et_not (et_B (ev_callP (tI (trimI one)) okt (ea_cons (ev_read1 (rd_all (formW_rd ol ob60) (formT_tokens ol ob60) flo fln) (ev_var rfl)) (ea_cons trm ea_nil))))) rfl) rfl) ?_
    refine gs_skip (et_is (et_not (et_B (ev_callP (tI (trimI one)) okt (ea_cons (ev_readW (formW_ok ol ob60) (formW_rd ol ob60) (k := 1) (x := x) (y := y) rfl (ev_varP rfl cDl_pin) ((ev_callP (formT one) ⟨fln, flo⟩ (ea_cons (ev_var rfl) ea_nil)).eq (by rw [formT_tokens ol ob60]))) (ea_cons trm ea_nil))))) rfl) ?_
    clear trm okt flo fln ob300 ob60 tl ol
    -- a drawn function
    refine gs_asg (ev_smallP (n := 600) (k := 1) (x := x) (y := y) rfl (ev_varP rfl cDl_pin) (ev_pick (k := 1) (x := x) (y := y) rfl (ev_varP rfl cDl_pin) (ea_iC (ev_ci (by decide)) (ea_iC (ev_ci (by decide)) ea_i0)) (by decide) (by decide)) (by decide)) fun c r => ?_
    obtain ⟨m', rfl, m0, m1⟩ := r
    obtain ⟨m, rfl⟩ : ∃ m : Nat, m' = m := ⟨m'.toNat, by omega⟩
    have m0 : 0 < m := by omega
    have m1 : m ≤ 600 := by omega
    refine gs_asg (R := fun c => ∃ l : List Nat, c = cD K (tI (l.map fun z : Nat => (z : Int))) ∧ l.length = m ∧ ∀ z ∈ l, z < m) ((ev_tupleN (P := fun ds => ∃ l : List Nat, ds = l.map (fun z : Nat => PyData.int (z : Int)) ∧ l.length = m ∧ ∀ z ∈ l, z < m) (Ev.freezeN ((ev_lcN (tq := tYes) (vs := [11]) (js := [11]) (ei_rng1 (n := (m : Nat)) (ev_var (d := .int (m : Nat)) rfl) (by omega)) (fun k hk => by rw [mem1 hk]; rfl) (fun j hj => hj) (fun i ds => ∃ l : List Nat, ds = l.map (fun z : Nat => PyData.int (z : Int)) ∧ l.length = i ∧ ∀ z ∈ l, z < m) ⟨[], rfl, rfl, fun _ h => nomatch h⟩ (fun i acc hi ⟨l, e, e2, _⟩ => by rw [e, List.length_map, e2]; omega) fun i c acc hi ec ⟨l, e, e2, e3⟩ => ?_).imp fun c ⟨ds, h1, l, h2, h3, h4⟩ => ⟨ds, h1, l, h2, by rw [h3]; exact Int.toNat_natCast m, h4⟩))).imp fun c ⟨d, e, ds, e2, l, e3, h⟩ => ⟨l, by rw [e, e2, e3]; unfold tI; rw [List.map_map]; rfl, h⟩) fun c r => ?_
    · subst ec e
      refine ⟨_, fun b => b = true, tg_name, rfl, fun k hk => List.getElem?_set_ne fun e => hk (by simp [e]), et_yes, fun _ => ?_, fun h => nomatch h⟩
      refine (ev_any (n := (m : Nat)) (k := 1) (x := x) (y := y) rfl (ev_varP rfl cDl_pin) (ev_var (d := .int (m : Nat)) rfl) (by omega) (len140 (by omega))).imp fun c ⟨n, e, n0, n1⟩ => ⟨_, e, l ++ [n.toNat], ?_, by rw [List.length_append, e2]; rfl, fun z hz => ?_⟩
      · rw [List.map_append]
        show _ = _ ++ [PyData.int (n.toNat : Nat)]
        rw [Int.toNat_of_nonneg n0]
      · rcases List.mem_append.mp hz with h | h
        · exact e3 z h
        · rw [List.mem_singleton.mp h]
          omega
    obtain ⟨l, rfl, ll, lz⟩ := r
    have lz1000 : ∀ z ∈ l, z < 1000 := fun z hz => by have := lz z hz; omega
    have wk := hw_WOK (by omega : l.length ≤ 600) lz1000
    have wl : (hwW l).length = l.length + 1 := by
      show (l.map nT).length + 1 = _
      rw [List.length_map]
    refine gs_set (c := tlW K (hwW l)) (ev_catW (a := [hoursT]) (b := l.map nT) (ev_lsW (ws := [hoursT]) (ev_lst (ds := [strD hoursT]) (ea_cons (ev_litT (by decide +kernel)) ea_nil) (by simp))) (ev_lsW (Ev.own (ev_lc1A l (fun z => .int (z : Nat)) (fun z => strD (nT z)) (ei_tup (ds := (l.map fun z : Nat => (z : Int)).map .int) (ev_var rfl)) (by rw [List.length_map, List.length_map]) (fun i c h => ?_) rfl (by omega) (fun z hz' => ev_strN (n := z) (ev_var (d := .int (z : Nat)) rfl) (Nat.lt_trans (lz1000 z hz') (by decide +kernel)))) (by rw [List.map_map]; rfl))) (by simp; omega)) ?_
    · obtain ⟨z, h1, h2⟩ := item_ints h
      rw [List.getElem?_map] at h1
      cases e : l[i]? with
      | none => rw [e] at h1; cases h1
      | some w =>
        rw [e] at h1
        cases h1
        exact ⟨w, rfl, h2⟩
    have jt : tokens (TL.joinL [32] (hwW l)) = hwW l := join_tokens fun w hw => (hw_ok lz1000 w hw).1
    have jlo : low (TL.joinL [32] (hwW l)) := join_low _ fun w hw => (hw_ok lz1000 w hw).2.1
    have jl : (TL.joinL [32] (hwW l)).length ≤ 20000 := Nat.le_trans (join_len (n := 5) (hwW l) fun w hw => (hw_ok lz1000 w hw).2.2) (by rw [wl]; omega)
    have join : ∀ {c3 : Cell} {cs : List Cell} {r : V → List V → Hp → VK → Prop} , cs[3]? = some (tlW K (hwW l)) → (∀ (H : Hp) (p : Addr) (Q : VK), SqL K H p (((hwW l).map SX.S).map V.str) → (((hwW l).map SX.S).map fun x : Str => x.length).sum + (hwW l).length ≤ 100000 → Q (.str (Txt.join (SX.S [32]) ((hwW l).map SX.S))) H → r (.str (SX.S [32])) [.ref p] H Q) → Ev (tBM K "str" r (tC (.str " ")) (tCons (tVar 3) tNil)) cs (Is (cD K (strD (TL.joinL [32] (hwW l))))) := fun h hr =>
      ev_joinW (ws := hwW l) (ev_varTL h).tl (by rw [wl]; omega) (fun w hw => (hw_ok lz1000 w hw).2.2) hr (ev_litT (x := [32]) (by decide +kernel))
    have hjoin : ∀ (H : Hp) (p : Addr) (Q : VK), SqL K H p (((hwW l).map SX.S).map V.str) → (((hwW l).map SX.S).map fun x : Str => x.length).sum + (hwW l).length ≤ 100000 → Q (.str (Txt.join (SX.S [32]) ((hwW l).map SX.S))) H → rJoin K (.str (SX.S [32])) [.ref p] H Q := fun H p Q hs q hq => by
      refine ⟨SX.S [32], p, (hwW l).map SX.S, rfl, rfl, .inl hs, ?_, hq⟩
      simp only [List.length_map, SX.S_len] at q ⊢
      simp only [List.length_nil, List.length_singleton] at *
      omega
    refine gs_skip (et_is (et_not (et_B (ev_callP (strD (TL.joinL [32] (hwW l))) (lay_S jlo) (ea_cons (ev_callP l ⟨by omega, lz1000⟩ (ea_cons (ev_var rfl) ea_nil)) (ea_cons (join (c3 := cNo) rfl hjoin) ea_nil))))) rfl) ?_
    have tbl : PyData := tI (l.map fun z : Nat => (z : Int))
    have oktt : okD 6 (.list [tI (l.map fun z : Nat => (z : Int)), tI (l.map fun z : Nat => (z : Int))]) = true := by
      have e : okD 5 (tI (l.map fun z : Nat => (z : Int))) = true := ok_ints (by rw [List.length_map]; omega)
      show (decide (2 ≤ 1000) && (okD 5 (tI (l.map fun z : Nat => (z : Int))) && (okD 5 (tI (l.map fun z : Nat => (z : Int))) && true))) = true
      rw [e]
      rfl
    have rdN : ∀ {cs : List Cell} {t1 t2 : TE} {P : List Nat → Prop}, Ev t1 cs (Is (cI K (m : Nat))) → Ev t2 cs (isTx K P) → (∀ t, P t → tokens t = hwW l ∧ low t ∧ t.length ≤ 20000) → Ev (tCall (spP K RF.ok (fun i => [.int (i.m : Nat), strD i.l]) (fun i => tI (i.ts.map fun t => (numV t : Int)))) [] E0 (tCons t1 (tCons t2 tNil))) cs (Is (cD K (tI (l.map fun z : Nat => (z : Int))))) := fun h1 h2 hp =>
      (ev_callN (P := fun i : {i : RF // RF.ok i} => i.1.ts = l.map nT) ((ea_consN h1 (ea_consN h2 ea_nil)).imp fun as ⟨c, r, e1, e2, c2, r2, e3, ⟨d, e4, t, e5, p⟩, e6⟩ => by
        obtain ⟨q1, q2, q3⟩ := hp t p
        exact ⟨⟨RF.mk m t (l.map nT), hw_read m0 m1 ll lz q1 q2 q3⟩, by rw [e1, e2, e3, e4, e5, e6]; rfl, rfl⟩)).imp fun c ⟨i, e, er⟩ => e.trans (by
          show cD K (tI (i.1.ts.map fun t => (numV t : Int))) = _
          rw [er, hw_vals])
    refine go_ifF (et_is (et_not (et_B (b := true) (ev_callP (.list [tI (l.map fun z : Nat => (z : Int)), tI (l.map fun z : Nat => (z : Int))]) oktt (ea_cons ?_ (ea_cons ?_ ea_nil))))) rfl) (go_nx (go_mid ⟨_, _, _, _, _, _, _, _, rfl⟩))
    · refine ev_lstD (ds := [tI (l.map fun z : Nat => (z : Int)), tI (l.map fun z : Nat => (z : Int))]) (ea_cons ?_ (ea_cons ?_ ea_nil)) (by simp)
      · exact rdN (P := fun t => t = TL.joinL [32] (hwW l)) (ev_var (d := .int (m : Nat)) rfl) (ev_tx (join (c3 := cNo) rfl hjoin)) (fun t e => by subst e; exact ⟨jt, jlo, jl⟩)
      · exact rdN (ev_var (d := .int (m : Nat)) rfl) (ev_written wk (k := 1) (x := x) (y := y) rfl (ev_varP rfl cDl_pin) (ev_varTL rfl).tl) (fun t e => e)
    · exact ev_lstD (ds := [tI (l.map fun z : Nat => (z : Int)), tI (l.map fun z : Nat => (z : Int))]) (ea_cons (ev_var rfl) (ea_cons (ev_var rfl) ea_nil)) (by simp)
  · rintro cs' ⟨c2, c3, c4, c5, c6, c7, c8, c9, rfl⟩
    have dt : ∀ {cs : List Cell}, Ev (tC (.str "(")) cs (Is (cS K (SX.S [40]))) := fun {cs} => (ev_litT (x := [40]) (by decide +kernel))
    have dt2 : ∀ {cs : List Cell}, Ev (tC (.str ")")) cs (Is (cS K (SX.S [41]))) := fun {cs} => (ev_litT (x := [41]) (by decide +kernel))
    have e1 : Txt.mul (SX.S [40]) 20 = SX.S (List.replicate 20 40) := by decide +kernel
    have e2 : Txt.mul (SX.S [41]) 20 = SX.S (List.replicate 20 41) := by decide +kernel
    refine gs_set (c := cD K (strD deepT)) (ev_addT (x := List.replicate 20 40 ++ [120]) (y := List.replicate 20 41) (ev_addT (x := List.replicate 20 40) (y := [120]) ((ev_mulS dt (ev_int (n := 20)) (by decide) (by decide) (by decide)).eq (congrArg PyData.str e1)) (ev_litT (by decide +kernel)) (by decide)) ((ev_mulS dt2 (ev_int (n := 20)) (by decide) (by decide) (by decide)).eq (congrArg PyData.str e2)) (by decide)) ?_
    have okl : okD 6 (.list [strD [48], tI [1], tI [0, 1], tI [0, 0, -1]]) = true := by
      have a1 : okD 5 (strD [48]) = true := lay_S (low_one (by decide))
      have a2 : okD 5 (tI [1]) = true := ok_ints (by decide)
      have a3 : okD 5 (tI [0, 1]) = true := ok_ints (by decide)
      have a4 : okD 5 (tI [0, 0, -1]) = true := ok_ints (by decide)
      show (decide (4 ≤ 1000) && (okD 5 (strD [48]) && (okD 5 (tI [1]) && (okD 5 (tI [0, 1]) && (okD 5 (tI [0, 0, -1]) && true))))) = true
      rw [a1, a2, a3, a4]
      rfl
    have fz : formT [0, 0] = [48] := by decide
    refine go_retI (ev_callP (.list [strD [48], tI [1], tI [0, 1], tI [0, 0, -1]]) okl (ea_cons (ev_lstD (ds := [strD [48], tI [1], tI [0, 1], tI [0, 0, -1]]) (ea_cons ((ev_callP [0, 0] ⟨by decide, (fun z hz => by simp at hz; rw [hz]; decide)⟩ (ea_cons (ev_tup (ds := [.int 0, .int 0]) (ea_cons ev_int (ea_cons ev_int ea_nil)) (by simp)) ea_nil)).eq (congrArg strD fz)) (ea_cons (ev_read1 rd_zero (ev_litT (by decide +kernel))) (ea_cons (ev_read1 rd_deep (ev_var rfl)) (ea_cons (ev_read1 rd_deep2 (ev_addT (x := [45] ++ deepT) (y := [94, 50]) (ev_addT (x := [45]) (y := deepT) (ev_litT (by decide +kernel)) (ev_var rfl) (by decide)) (ev_litT (by decide +kernel)) (by decide))) ea_nil)))) (by simp))
      (ea_cons (ev_lstD (ds := [strD [48], tI [1], tI [0, 1], tI [0, 0, -1]]) (ea_cons (ev_litT (by decide +kernel)) (ea_cons (ev_tup (ds := [.int 1]) (ea_cons ev_int ea_nil) (by simp)) (ea_cons (ev_tup (ds := [.int 0, .int 1]) (ea_cons ev_int (ea_cons ev_int ea_nil)) (by simp)) (ea_cons (ev_tup (ds := [.int 0, .int 0, .int (-1)]) (ea_cons ev_int (ea_cons ev_int (ea_cons ((ev_neg (K := K) (ev_int (n := 1))).il (m := -1) rfl) ea_nil))) (by simp)) ea_nil)))) (by simp)) ea_nil))) (rt' _ (by simp))
end
end Y
namespace Y
open PySem L2 Z M StX
abbrev spLaw (K : PySem.W.Frag) : Sp := fun vs H Q _ => ∃ (a : Addr) (ns : List Int), vs = [.ref a] ∧ SqL K H a (ns.map V.int) ∧ ns.length ≤ 63 ∧ ∀ H', Q (.bl true) H'
theorem law_imp {K : PySem.W.Frag} {vs : List V} {H : Hp} {Q : VK} {E : XK} (h : spLaw K vs H Q E) : spP K (fun i : List Int => i.length ≤ 63) (fun i => [lI i]) (fun _ => .bool true) vs H Q E := by
  obtain ⟨a, ns, rfl, hS, hl, k⟩ := h
  have e : H = pl H (fun _ => none) := rfl
  refine ⟨⟨ns, hl⟩, H, fun _ => none, [], e, ?_, ?_, List.nodup_nil, ?_⟩
  · intro b o z
    cases z
  · exact ⟨[], [], rfl, ⟨rfl, _, rfl, .lst hS (ints_dpAll ns)⟩, rfl⟩
  intro v B' F' cs' c' fp' ⟨e1, e2⟩ sB dj hh nd hk
  subst e1 e2
  obtain ⟨f1, f2, _, ⟨_, z, ez, rz⟩, _⟩ := hh
  cases ez
  have ev := dp_bl rz
  subst ev
  exact k _
theorem all_mk {l : PySem.W.OpenLaw} {w : World} {K : PySem.W.Frag} {h : Heap} {mg : Str → Option Value} {fa fCursor f1 f2 f3 f4 f5 f6 f7 f8 f9 f10 f11 f12 f13 f14 f15 f16 f17 f18 f19 f20 f21 f22 f23 f24 f25 f26 f27 f28 f29 f30 f31 f32 f33 f34 f35 f36 f37 f38 f39 f40 f41 f42 : Addr} (X : K.In h) (G : h.Ns mainGlobals mg) (hfa : mg "law" = some (.ref fa))
    {od1 an1 od2 an2 od3 an3 od4 an4 od5 an5 od6 an6 od7 an7 od8 an8 od9 an9 od10 an10 od11 an11 od12 an12 od13 an13 od14 an14 od15 an15 od16 an16 od17 an17 od18 an18 od19 an19 od20 an20 od21 an21 od22 an22 od23 an23 od24 an24 od25 an25 od26 an26 od27 an27 od28 an28 od29 an29 od30 an30 od31 an31 od32 an32 od33 an33 od34 an34 od35 an35 od36 an36 od37 an37 od38 an38 od39 an39 od40 an40 od41 an41 od42 an42 : Option Addr} {sl1 sl2 sl3 sl4 sl5 sl6 sl7 sl8 sl9 sl10 sl11 sl12 sl13 sl14 sl15 sl16 sl17 sl18 sl19 sl20 sl21 sl22 sl23 sl24 sl25 sl26 sl27 sl28 sl29 sl30 sl31 sl32 sl33 sl34 sl35 sl36 sl37 sl38 sl39 sl40 sl41 sl42 : Array (Option Value)}
    {oc1 kV1 dc1 pm1 cd1 ct1 oc2 kV2 dc2 pm2 cd2 ct2 oc3 kV3 dc3 pm3 cd3 ct3 oc4 kV4 dc4 pm4 cd4 ct4 oc5 kV5 dc5 pm5 cd5 ct5 oc6 kV6 dc6 pm6 cd6 ct6 oc7 kV7 dc7 pm7 cd7 ct7 oc8 kV8 dc8 pm8 cd8 ct8 oc9 kV9 dc9 pm9 cd9 ct9 oc10 kV10 dc10 pm10 cd10 ct10 oc11 kV11 dc11 pm11 cd11 ct11 oc12 kV12 dc12 pm12 cd12 ct12 oc13 kV13 dc13 pm13 cd13 ct13 oc14 kV14 dc14 pm14 cd14 ct14 oc15 kV15 dc15 pm15 cd15 ct15 oc16 kV16 dc16 pm16 cd16 ct16 oc17 kV17 dc17 pm17 cd17 ct17 oc18 kV18 dc18 pm18 cd18 ct18 oc19 kV19 dc19 pm19 cd19 ct19 oc20 kV20 dc20 pm20 cd20 ct20 oc21 kV21 dc21 pm21 cd21 ct21 oc22 kV22 dc22 pm22 cd22 ct22 oc23 kV23 dc23 pm23 cd23 ct23 oc24 kV24 dc24 pm24 cd24 ct24 oc25 kV25 dc25 pm25 cd25 ct25 oc26 kV26 dc26 pm26 cd26 ct26 oc27 kV27 dc27 pm27 cd27 ct27 oc28 kV28 dc28 pm28 cd28 ct28 oc29 kV29 dc29 pm29 cd29 ct29 oc30 kV30 dc30 pm30 cd30 ct30 oc31 kV31 dc31 pm31 cd31 ct31 oc32 kV32 dc32 pm32 cd32 ct32 oc33 kV33 dc33 pm33 cd33 ct33 oc34 kV34 dc34 pm34 cd34 ct34 oc35 kV35 dc35 pm35 cd35 ct35 oc36 kV36 dc36 pm36 cd36 ct36 oc37 kV37 dc37 pm37 cd37 ct37 oc38 kV38 dc38 pm38 cd38 ct38 oc39 kV39 dc39 pm39 cd39 ct39 oc40 kV40 dc40 pm40 cd40 ct40 oc41 kV41 dc41 pm41 cd41 ct41 oc42 kV42 dc42 pm42 cd42 ct42 : Value} {tk0 tk1 tk2 tk3 tk4 tk5 tk6 : Tok}
    {cS0 : Value} {cdS : Option Addr} {eS : Array DictEntry} {nS : Nat} {sS : Array (Option Value)}
    (aCCursor : PySem.W.nsIn K mainGlobals "Cursor" = some (some (.ref fCursor)))
    (a1 : PySem.W.nsIn K mainGlobals "is_integer" = some (some (.ref f1)))
    (l1 : K.lookup f1 = some ⟨oc1, od1, .func (PySem.W.fnOf "is_integer" "is_integer" (defArgs (topS 7)) (defBody (topS 7)) (defScope (topS 7)) .none kV1 dc1 pm1 an1 cd1 ct1), sl1⟩) (c1 : PySem.W.codeIn K cd1 "is_integer" = true) (k1 : PySem.W.keepIn K (.ref f1) = true)
    (a2 : PySem.W.nsIn K mainGlobals "is_formula" = some (some (.ref f2)))
    (l2 : K.lookup f2 = some ⟨oc2, od2, .func (PySem.W.fnOf "is_formula" "is_formula" (defArgs (topS 10)) (defBody (topS 10)) (defScope (topS 10)) .none kV2 dc2 pm2 an2 cd2 ct2), sl2⟩) (c2 : PySem.W.codeIn K cd2 "is_formula" = true) (k2 : PySem.W.keepIn K (.ref f2) = true)
    (a3 : PySem.W.nsIn K mainGlobals "checked_formulas" = some (some (.ref f3)))
    (l3 : K.lookup f3 = some ⟨oc3, od3, .func (PySem.W.fnOf "checked_formulas" "checked_formulas" (defArgs (topS 11)) (defBody (topS 11)) (defScope (topS 11)) .none kV3 dc3 pm3 an3 cd3 ct3), sl3⟩) (c3 : PySem.W.codeIn K cd3 "checked_formulas" = true) (k3 : PySem.W.keepIn K (.ref f3) = true)
    (a4 : PySem.W.nsIn K mainGlobals "trimmed" = some (some (.ref f4)))
    (l4 : K.lookup f4 = some ⟨oc4, od4, .func (PySem.W.fnOf "trimmed" "trimmed" (defArgs (topS 12)) (defBody (topS 12)) (defScope (topS 12)) .none kV4 dc4 pm4 an4 cd4 ct4), sl4⟩) (c4 : PySem.W.codeIn K cd4 "trimmed" = true) (k4 : PySem.W.keepIn K (.ref f4) = true)
    (a5 : PySem.W.nsIn K mainGlobals "fitting" = some (some (.ref f5)))
    (l5 : K.lookup f5 = some ⟨oc5, od5, .func (PySem.W.fnOf "fitting" "fitting" (defArgs (topS 13)) (defBody (topS 13)) (defScope (topS 13)) .none kV5 dc5 pm5 an5 cd5 ct5), sl5⟩) (c5 : PySem.W.codeIn K cd5 "fitting" = true) (k5 : PySem.W.keepIn K (.ref f5) = true)
    (a6 : PySem.W.nsIn K mainGlobals "row_sum" = some (some (.ref f6)))
    (l6 : K.lookup f6 = some ⟨oc6, od6, .func (PySem.W.fnOf "row_sum" "row_sum" (defArgs (topS 14)) (defBody (topS 14)) (defScope (topS 14)) .none kV6 dc6 pm6 an6 cd6 ct6), sl6⟩) (c6 : PySem.W.codeIn K cd6 "row_sum" = true) (k6 : PySem.W.keepIn K (.ref f6) = true)
    (a7 : PySem.W.nsIn K mainGlobals "row_product" = some (some (.ref f7)))
    (l7 : K.lookup f7 = some ⟨oc7, od7, .func (PySem.W.fnOf "row_product" "row_product" (defArgs (topS 15)) (defBody (topS 15)) (defScope (topS 15)) .none kV7 dc7 pm7 an7 cd7 ct7), sl7⟩) (c7 : PySem.W.codeIn K cd7 "row_product" = true) (k7 : PySem.W.keepIn K (.ref f7) = true)
    (a8 : PySem.W.nsIn K mainGlobals "power_text" = some (some (.ref f8)))
    (l8 : K.lookup f8 = some ⟨oc8, od8, .func (PySem.W.fnOf "power_text" "power_text" (defArgs (topS 17)) (defBody (topS 17)) (defScope (topS 17)) .none kV8 dc8 pm8 an8 cd8 ct8), sl8⟩) (c8 : PySem.W.codeIn K cd8 "power_text" = true) (k8 : PySem.W.keepIn K (.ref f8) = true)
    (a9 : PySem.W.nsIn K mainGlobals "formula_text" = some (some (.ref f9)))
    (l9 : K.lookup f9 = some ⟨oc9, od9, .func (PySem.W.fnOf "formula_text" "formula_text" (defArgs (topS 18)) (defBody (topS 18)) (defScope (topS 18)) .none kV9 dc9 pm9 an9 cd9 ct9), sl9⟩) (c9 : PySem.W.codeIn K cd9 "formula_text" = true) (k9 : PySem.W.keepIn K (.ref f9) = true)
    (a10 : PySem.W.nsIn K mainGlobals "function_text" = some (some (.ref f10)))
    (l10 : K.lookup f10 = some ⟨oc10, od10, .func (PySem.W.fnOf "function_text" "function_text" (defArgs (topS 19)) (defBody (topS 19)) (defScope (topS 19)) .none kV10 dc10 pm10 an10 cd10 ct10), sl10⟩) (c10 : PySem.W.codeIn K cd10 "function_text" = true) (k10 : PySem.W.keepIn K (.ref f10) = true)
    (a11 : PySem.W.nsIn K mainGlobals "is_clock" = some (some (.ref f11)))
    (l11 : K.lookup f11 = some ⟨oc11, od11, .func (PySem.W.fnOf "is_clock" "is_clock" (defArgs (topS 23)) (defBody (topS 23)) (defScope (topS 23)) .none kV11 dc11 pm11 an11 cd11 ct11), sl11⟩) (c11 : PySem.W.codeIn K cd11 "is_clock" = true) (k11 : PySem.W.keepIn K (.ref f11) = true)
    (a12 : PySem.W.nsIn K mainGlobals "checked_clock" = some (some (.ref f12)))
    (l12 : K.lookup f12 = some ⟨oc12, od12, .func (PySem.W.fnOf "checked_clock" "checked_clock" (defArgs (topS 24)) (defBody (topS 24)) (defScope (topS 24)) .none kV12 dc12 pm12 an12 cd12 ct12), sl12⟩) (c12 : PySem.W.codeIn K cd12 "checked_clock" = true) (k12 : PySem.W.keepIn K (.ref f12) = true)
    (a13 : PySem.W.nsIn K mainGlobals "is_numeral" = some (some (.ref f13)))
    (l13 : K.lookup f13 = some ⟨oc13, od13, .func (PySem.W.fnOf "is_numeral" "is_numeral" (defArgs (topS 28)) (defBody (topS 28)) (defScope (topS 28)) .none kV13 dc13 pm13 an13 cd13 ct13), sl13⟩) (c13 : PySem.W.codeIn K cd13 "is_numeral" = true) (k13 : PySem.W.keepIn K (.ref f13) = true)
    (a14 : PySem.W.nsIn K mainGlobals "tokens_of" = some (some (.ref f14)))
    (l14 : K.lookup f14 = some ⟨oc14, od14, .func (PySem.W.fnOf "tokens_of" "tokens_of" (defArgs (topS 29)) (defBody (topS 29)) (defScope (topS 29)) .none kV14 dc14 pm14 an14 cd14 ct14), sl14⟩) (c14 : PySem.W.codeIn K cd14 "tokens_of" = true) (k14 : PySem.W.keepIn K (.ref f14) = true)
    (a15 : PySem.W.findIn K (.ref fCursor) "__init__" = some (some (.ref f15))) (i15 : PySem.W.isFn K (.ref f15) = true)
    (l15 : K.lookup f15 = some ⟨oc15, od15, .func (PySem.W.fnOf "__init__" "Cursor.__init__" (defArgs (inClass (topS 33) 0)) (defBody (inClass (topS 33) 0)) (defScope (inClass (topS 33) 0)) .none kV15 dc15 pm15 an15 cd15 ct15), sl15⟩) (c15 : PySem.W.codeIn K cd15 "Cursor.__init__" = true) (k15 : PySem.W.keepIn K (.ref f15) = true)
    (a16 : PySem.W.findIn K (.ref fCursor) "ahead" = some (some (.ref f16))) (i16 : PySem.W.isFn K (.ref f16) = true)
    (l16 : K.lookup f16 = some ⟨oc16, od16, .func (PySem.W.fnOf "ahead" "Cursor.ahead" (defArgs (inClass (topS 33) 1)) (defBody (inClass (topS 33) 1)) (defScope (inClass (topS 33) 1)) .none kV16 dc16 pm16 an16 cd16 ct16), sl16⟩) (c16 : PySem.W.codeIn K cd16 "Cursor.ahead" = true) (k16 : PySem.W.keepIn K (.ref f16) = true)
    (a17 : PySem.W.findIn K (.ref fCursor) "take" = some (some (.ref f17))) (i17 : PySem.W.isFn K (.ref f17) = true)
    (l17 : K.lookup f17 = some ⟨oc17, od17, .func (PySem.W.fnOf "take" "Cursor.take" (defArgs (inClass (topS 33) 3)) (defBody (inClass (topS 33) 3)) (defScope (inClass (topS 33) 3)) .none kV17 dc17 pm17 an17 cd17 ct17), sl17⟩) (c17 : PySem.W.codeIn K cd17 "Cursor.take" = true) (k17 : PySem.W.keepIn K (.ref f17) = true)
    (a18 : PySem.W.findIn K (.ref fCursor) "number" = some (some (.ref f18))) (i18 : PySem.W.isFn K (.ref f18) = true)
    (l18 : K.lookup f18 = some ⟨oc18, od18, .func (PySem.W.fnOf "number" "Cursor.number" (defArgs (inClass (topS 33) 4)) (defBody (inClass (topS 33) 4)) (defScope (inClass (topS 33) 4)) .none kV18 dc18 pm18 an18 cd18 ct18), sl18⟩) (c18 : PySem.W.codeIn K cd18 "Cursor.number" = true) (k18 : PySem.W.keepIn K (.ref f18) = true)
    (a19 : PySem.W.findIn K (.ref fCursor) "end" = some (some (.ref f19))) (i19 : PySem.W.isFn K (.ref f19) = true)
    (l19 : K.lookup f19 = some ⟨oc19, od19, .func (PySem.W.fnOf "end" "Cursor.end" (defArgs (inClass (topS 33) 5)) (defBody (inClass (topS 33) 5)) (defScope (inClass (topS 33) 5)) .none kV19 dc19 pm19 an19 cd19 ct19), sl19⟩) (c19 : PySem.W.codeIn K cd19 "Cursor.end" = true) (k19 : PySem.W.keepIn K (.ref f19) = true)
    (a20 : PySem.W.nsIn K mainGlobals "read_atom" = some (some (.ref f20)))
    (l20 : K.lookup f20 = some ⟨oc20, od20, .func (PySem.W.fnOf "read_atom" "read_atom" (defArgs (topS 34)) (defBody (topS 34)) (defScope (topS 34)) .none kV20 dc20 pm20 an20 cd20 ct20), sl20⟩) (c20 : PySem.W.codeIn K cd20 "read_atom" = true) (k20 : PySem.W.keepIn K (.ref f20) = true)
    (a21 : PySem.W.nsIn K mainGlobals "read_power" = some (some (.ref f21)))
    (l21 : K.lookup f21 = some ⟨oc21, od21, .func (PySem.W.fnOf "read_power" "read_power" (defArgs (topS 35)) (defBody (topS 35)) (defScope (topS 35)) .none kV21 dc21 pm21 an21 cd21 ct21), sl21⟩) (c21 : PySem.W.codeIn K cd21 "read_power" = true) (k21 : PySem.W.keepIn K (.ref f21) = true)
    (a22 : PySem.W.nsIn K mainGlobals "read_product" = some (some (.ref f22)))
    (l22 : K.lookup f22 = some ⟨oc22, od22, .func (PySem.W.fnOf "read_product" "read_product" (defArgs (topS 36)) (defBody (topS 36)) (defScope (topS 36)) .none kV22 dc22 pm22 an22 cd22 ct22), sl22⟩) (c22 : PySem.W.codeIn K cd22 "read_product" = true) (k22 : PySem.W.keepIn K (.ref f22) = true)
    (a23 : PySem.W.nsIn K mainGlobals "read_sum" = some (some (.ref f23)))
    (l23 : K.lookup f23 = some ⟨oc23, od23, .func (PySem.W.fnOf "read_sum" "read_sum" (defArgs (topS 37)) (defBody (topS 37)) (defScope (topS 37)) .none kV23 dc23 pm23 an23 cd23 ct23), sl23⟩) (c23 : PySem.W.codeIn K cd23 "read_sum" = true) (k23 : PySem.W.keepIn K (.ref f23) = true)
    (a24 : PySem.W.nsIn K mainGlobals "read_formula" = some (some (.ref f24)))
    (l24 : K.lookup f24 = some ⟨oc24, od24, .func (PySem.W.fnOf "read_formula" "read_formula" (defArgs (topS 38)) (defBody (topS 38)) (defScope (topS 38)) .none kV24 dc24 pm24 an24 cd24 ct24), sl24⟩) (c24 : PySem.W.codeIn K cd24 "read_formula" = true) (k24 : PySem.W.keepIn K (.ref f24) = true)
    (a25 : PySem.W.nsIn K mainGlobals "read_function" = some (some (.ref f25)))
    (l25 : K.lookup f25 = some ⟨oc25, od25, .func (PySem.W.fnOf "read_function" "read_function" (defArgs (topS 39)) (defBody (topS 39)) (defScope (topS 39)) .none kV25 dc25 pm25 an25 cd25 ct25), sl25⟩) (c25 : PySem.W.codeIn K cd25 "read_function" = true) (k25 : PySem.W.keepIn K (.ref f25) = true)
    (a26 : PySem.W.nsIn K mainGlobals "_law_draw" = some (some (.ref f26)))
    (l26 : K.lookup f26 = some ⟨oc26, od26, .func (PySem.W.fnOf "_law_draw" "_law_draw" (defArgs (topS 41)) (defBody (topS 41)) (defScope (topS 41)) .none kV26 dc26 pm26 an26 cd26 ct26), sl26⟩) (c26 : PySem.W.codeIn K cd26 "_law_draw" = true) (k26 : PySem.W.keepIn K (.ref f26) = true)
    (a27 : PySem.W.nsIn K mainGlobals "_law_any" = some (some (.ref f27)))
    (l27 : K.lookup f27 = some ⟨oc27, od27, .func (PySem.W.fnOf "_law_any" "_law_any" (defArgs (topS 42)) (defBody (topS 42)) (defScope (topS 42)) .none kV27 dc27 pm27 an27 cd27 ct27), sl27⟩) (c27 : PySem.W.codeIn K cd27 "_law_any" = true) (k27 : PySem.W.keepIn K (.ref f27) = true)
    (a28 : PySem.W.nsIn K mainGlobals "_law_of" = some (some (.ref f28)))
    (l28 : K.lookup f28 = some ⟨oc28, od28, .func (PySem.W.fnOf "_law_of" "_law_of" (defArgs (topS 43)) (defBody (topS 43)) (defScope (topS 43)) .none kV28 dc28 pm28 an28 cd28 ct28), sl28⟩) (c28 : PySem.W.codeIn K cd28 "_law_of" = true) (k28 : PySem.W.keepIn K (.ref f28) = true)
    (a29 : PySem.W.nsIn K mainGlobals "_law_same" = some (some (.ref f29)))
    (l29 : K.lookup f29 = some ⟨oc29, od29, .func (PySem.W.fnOf "_law_same" "_law_same" (defArgs (topS 44)) (defBody (topS 44)) (defScope (topS 44)) .none kV29 dc29 pm29 an29 cd29 ct29), sl29⟩) (c29 : PySem.W.codeIn K cd29 "_law_same" = true) (k29 : PySem.W.keepIn K (.ref f29) = true)
    (a30 : PySem.W.nsIn K mainGlobals "_law_great" = some (some (.ref f30)))
    (l30 : K.lookup f30 = some ⟨oc30, od30, .func (PySem.W.fnOf "_law_great" "_law_great" (defArgs (topS 45)) (defBody (topS 45)) (defScope (topS 45)) .none kV30 dc30 pm30 an30 cd30 ct30), sl30⟩) (c30 : PySem.W.codeIn K cd30 "_law_great" = true) (k30 : PySem.W.keepIn K (.ref f30) = true)
    (a31 : PySem.W.nsIn K mainGlobals "_law_trim" = some (some (.ref f31)))
    (l31 : K.lookup f31 = some ⟨oc31, od31, .func (PySem.W.fnOf "_law_trim" "_law_trim" (defArgs (topS 46)) (defBody (topS 46)) (defScope (topS 46)) .none kV31 dc31 pm31 an31 cd31 ct31), sl31⟩) (c31 : PySem.W.codeIn K cd31 "_law_trim" = true) (k31 : PySem.W.keepIn K (.ref f31) = true)
    (a32 : PySem.W.nsIn K mainGlobals "_law_add" = some (some (.ref f32)))
    (l32 : K.lookup f32 = some ⟨oc32, od32, .func (PySem.W.fnOf "_law_add" "_law_add" (defArgs (topS 47)) (defBody (topS 47)) (defScope (topS 47)) .none kV32 dc32 pm32 an32 cd32 ct32), sl32⟩) (c32 : PySem.W.codeIn K cd32 "_law_add" = true) (k32 : PySem.W.keepIn K (.ref f32) = true)
    (a33 : PySem.W.nsIn K mainGlobals "_law_by" = some (some (.ref f33)))
    (l33 : K.lookup f33 = some ⟨oc33, od33, .func (PySem.W.fnOf "_law_by" "_law_by" (defArgs (topS 48)) (defBody (topS 48)) (defScope (topS 48)) .none kV33 dc33 pm33 an33 cd33 ct33), sl33⟩) (c33 : PySem.W.codeIn K cd33 "_law_by" = true) (k33 : PySem.W.keepIn K (.ref f33) = true)
    (a34 : PySem.W.nsIn K mainGlobals "_law_row" = some (some (.ref f34)))
    (l34 : K.lookup f34 = some ⟨oc34, od34, .func (PySem.W.fnOf "_law_row" "_law_row" (defArgs (topS 49)) (defBody (topS 49)) (defScope (topS 49)) .none kV34 dc34 pm34 an34 cd34 ct34), sl34⟩) (c34 : PySem.W.codeIn K cd34 "_law_row" = true) (k34 : PySem.W.keepIn K (.ref f34) = true)
    (a35 : PySem.W.nsIn K mainGlobals "_law_small_clock" = some (some (.ref f35)))
    (l35 : K.lookup f35 = some ⟨oc35, od35, .func (PySem.W.fnOf "_law_small_clock" "_law_small_clock" (defArgs (topS 50)) (defBody (topS 50)) (defScope (topS 50)) .none kV35 dc35 pm35 an35 cd35 ct35), sl35⟩) (c35 : PySem.W.codeIn K cd35 "_law_small_clock" = true) (k35 : PySem.W.keepIn K (.ref f35) = true)
    (a36 : PySem.W.nsIn K mainGlobals "_law_tokens" = some (some (.ref f36)))
    (l36 : K.lookup f36 = some ⟨oc36, od36, .func (PySem.W.fnOf "_law_tokens" "_law_tokens" (defArgs (topS 51)) (defBody (topS 51)) (defScope (topS 51)) .none kV36 dc36 pm36 an36 cd36 ct36), sl36⟩) (c36 : PySem.W.codeIn K cd36 "_law_tokens" = true) (k36 : PySem.W.keepIn K (.ref f36) = true)
    (a37 : PySem.W.nsIn K mainGlobals "_law_written" = some (some (.ref f37)))
    (l37 : K.lookup f37 = some ⟨oc37, od37, .func (PySem.W.fnOf "_law_written" "_law_written" (defArgs (topS 52)) (defBody (topS 52)) (defScope (topS 52)) .none kV37 dc37 pm37 an37 cd37 ct37), sl37⟩) (c37 : PySem.W.codeIn K cd37 "_law_written" = true) (k37 : PySem.W.keepIn K (.ref f37) = true)
    (a38 : PySem.W.nsIn K mainGlobals "_law_atom" = some (some (.ref f38)))
    (l38 : K.lookup f38 = some ⟨oc38, od38, .func (PySem.W.fnOf "_law_atom" "_law_atom" (defArgs (topS 53)) (defBody (topS 53)) (defScope (topS 53)) .none kV38 dc38 pm38 an38 cd38 ct38), sl38⟩) (c38 : PySem.W.codeIn K cd38 "_law_atom" = true) (k38 : PySem.W.keepIn K (.ref f38) = true)
    (a39 : PySem.W.nsIn K mainGlobals "_law_product" = some (some (.ref f39)))
    (l39 : K.lookup f39 = some ⟨oc39, od39, .func (PySem.W.fnOf "_law_product" "_law_product" (defArgs (topS 54)) (defBody (topS 54)) (defScope (topS 54)) .none kV39 dc39 pm39 an39 cd39 ct39), sl39⟩) (c39 : PySem.W.codeIn K cd39 "_law_product" = true) (k39 : PySem.W.keepIn K (.ref f39) = true)
    (a40 : PySem.W.nsIn K mainGlobals "_law_sum" = some (some (.ref f40)))
    (l40 : K.lookup f40 = some ⟨oc40, od40, .func (PySem.W.fnOf "_law_sum" "_law_sum" (defArgs (topS 55)) (defBody (topS 55)) (defScope (topS 55)) .none kV40 dc40 pm40 an40 cd40 ct40), sl40⟩) (c40 : PySem.W.codeIn K cd40 "_law_sum" = true) (k40 : PySem.W.keepIn K (.ref f40) = true)
    (a41 : PySem.W.nsIn K mainGlobals "_law_plain_text" = some (some (.ref f41)))
    (l41 : K.lookup f41 = some ⟨oc41, od41, .func (PySem.W.fnOf "_law_plain_text" "_law_plain_text" (defArgs (topS 56)) (defBody (topS 56)) (defScope (topS 56)) .none kV41 dc41 pm41 an41 cd41 ct41), sl41⟩) (c41 : PySem.W.codeIn K cd41 "_law_plain_text" = true) (k41 : PySem.W.keepIn K (.ref f41) = true)
    (a42 : PySem.W.nsIn K mainGlobals "law" = some (some (.ref f42)))
    (l42 : K.lookup f42 = some ⟨oc42, od42, .func (PySem.W.fnOf "law" "law" (defArgs (topS 57)) (defBody (topS 57)) (defScope (topS 57)) .none kV42 dc42 pm42 an42 cd42 ct42), sl42⟩) (c42 : PySem.W.codeIn K cd42 "law" = true) (k42 : PySem.W.keepIn K (.ref f42) = true)
    (pgCursor : PySem.W.plainGet K fCursor Str.empty = true) (hdCursor : PySem.W.hasDictIn K fCursor = true) (poCursor : PySem.W.plainOver K fCursor = true) (saCursor : PySem.W.findIn K (.ref fCursor) "__setattr__" = some (some (.builtin "object.__setattr__"))) (mkCursor : PySem.W.makesIn K fCursor = true) (kcCursor : PySem.W.keepIn K (.ref fCursor) = true)
    (yCursor0 : PySem.W.findIn K (.ref fCursor) "tokens" = some none)
    (yCursor1 : PySem.W.findIn K (.ref fCursor) "at" = some none)
    (z0 : PySem.W.nsIn K mainGlobals "abs" = some none)
    (z1 : PySem.W.nsIn K mainGlobals "all" = some none)
    (z2 : PySem.W.nsIn K mainGlobals "any" = some none)
    (z3 : PySem.W.nsIn K mainGlobals "bool" = some none)
    (z4 : PySem.W.nsIn K mainGlobals "enumerate" = some none)
    (z5 : PySem.W.nsIn K mainGlobals "int" = some none)
    (z6 : PySem.W.nsIn K mainGlobals "isinstance" = some none)
    (z7 : PySem.W.nsIn K mainGlobals "len" = some none)
    (z8 : PySem.W.nsIn K mainGlobals "list" = some none)
    (z9 : PySem.W.nsIn K mainGlobals "max" = some none)
    (z10 : PySem.W.nsIn K mainGlobals "min" = some none)
    (z11 : PySem.W.nsIn K mainGlobals "range" = some none)
    (z12 : PySem.W.nsIn K mainGlobals "reversed" = some none)
    (z13 : PySem.W.nsIn K mainGlobals "str" = some none)
    (z14 : PySem.W.nsIn K mainGlobals "tuple" = some none)
    (z15 : PySem.W.nsIn K mainGlobals "zip" = some none)
    (w0 : PySem.W.nsIn K mainGlobals "MOST_PLACES" = some (some (.int 61 tk0)))
    (w1 : PySem.W.nsIn K mainGlobals "MOST_CLOCK" = some (some (.int 10000000000000000000000000000000000000000 tk1)))
    (w2 : PySem.W.nsIn K mainGlobals "MOST_HOURS" = some (some (.int 600 tk2)))
    (w3 : PySem.W.nsIn K mainGlobals "MARKS" = some (some (.str "+-*^()" tk3)))
    (w4 : PySem.W.nsIn K mainGlobals "BLANKS" = some (some (.str " \t\n" tk4)))
    (w5 : PySem.W.nsIn K mainGlobals "MOST_DEEP" = some (some (.int 20 tk5)))
    (w6 : PySem.W.nsIn K mainGlobals "MOST_DIGITS" = some (some (.int 60 tk6)))
    (lS : K.lookup cStatics = some ⟨cS0, cdS, .dict eS nS, sS⟩) (dS1 : (eS.all fun e => match e.key with | .str _ _ => true | _ => false) = true) (dS2 : PySem.W.nsIn K cStatics "sys.int_max_str_digits" = some none)
    : ∃ fd : FuncData, (∀ (s : Shared) (v : Value), BindsTo s fd ⟨[v], []⟩ [("script", v)]) ∧ ∀ base : Heap, K.In base → base.Ns mainGlobals mg → FnOk l.prog w K mg base CX0 97 fa fd ["script"] (spLaw K) := by
  have e := hfa.symm.trans (PySem.W.mg_of X G a42)
  cases e
  have T : Txt K mg { is_integer := f1, is_formula := f2, checked_formulas := f3, trimmed := f4, fitting := f5, row_sum := f6, row_product := f7, power_text := f8, formula_text := f9, function_text := f10, is_clock := f11, checked_clock := f12, is_numeral := f13, tokens_of := f14, Cursor___init__ := f15, Cursor_ahead := f16, Cursor_take := f17, Cursor_number := f18, Cursor_end := f19, read_atom := f20, read_power := f21, read_product := f22, read_sum := f23, read_formula := f24, read_function := f25, _law_draw := f26, _law_any := f27, _law_of := f28, _law_same := f29, _law_great := f30, _law_trim := f31, _law_add := f32, _law_by := f33, _law_row := f34, _law_small_clock := f35, _law_tokens := f36, _law_written := f37, _law_atom := f38, _law_product := f39, _law_sum := f40, _law_plain_text := f41, law := fa, Cursor := fCursor } { is_integer := (PySem.W.fnOf "is_integer" "is_integer" (defArgs (topS 7)) (defBody (topS 7)) (defScope (topS 7)) .none kV1 dc1 pm1 an1 cd1 ct1), is_formula := (PySem.W.fnOf "is_formula" "is_formula" (defArgs (topS 10)) (defBody (topS 10)) (defScope (topS 10)) .none kV2 dc2 pm2 an2 cd2 ct2), checked_formulas := (PySem.W.fnOf "checked_formulas" "checked_formulas" (defArgs (topS 11)) (defBody (topS 11)) (defScope (topS 11)) .none kV3 dc3 pm3 an3 cd3 ct3), trimmed := (PySem.W.fnOf "trimmed" "trimmed" (defArgs (topS 12)) (defBody (topS 12)) (defScope (topS 12)) .none kV4 dc4 pm4 an4 cd4 ct4), fitting := (PySem.W.fnOf "fitting" "fitting" (defArgs (topS 13)) (defBody (topS 13)) (defScope (topS 13)) .none kV5 dc5 pm5 an5 cd5 ct5), row_sum := (PySem.W.fnOf "row_sum" "row_sum" (defArgs (topS 14)) (defBody (topS 14)) (defScope (topS 14)) .none kV6 dc6 pm6 an6 cd6 ct6), row_product := (PySem.W.fnOf "row_product" "row_product" (defArgs (topS 15)) (defBody (topS 15)) (defScope (topS 15)) .none kV7 dc7 pm7 an7 cd7 ct7), power_text := (PySem.W.fnOf "power_text" "power_text" (defArgs (topS 17)) (defBody (topS 17)) (defScope (topS 17)) .none kV8 dc8 pm8 an8 cd8 ct8), formula_text := (PySem.W.fnOf "formula_text" "formula_text" (defArgs (topS 18)) (defBody (topS 18)) (defScope (topS 18)) .none kV9 dc9 pm9 an9 cd9 ct9), function_text := (PySem.W.fnOf "function_text" "function_text" (defArgs (topS 19)) (defBody (topS 19)) (defScope (topS 19)) .none kV10 dc10 pm10 an10 cd10 ct10), is_clock := (PySem.W.fnOf "is_clock" "is_clock" (defArgs (topS 23)) (defBody (topS 23)) (defScope (topS 23)) .none kV11 dc11 pm11 an11 cd11 ct11), checked_clock := (PySem.W.fnOf "checked_clock" "checked_clock" (defArgs (topS 24)) (defBody (topS 24)) (defScope (topS 24)) .none kV12 dc12 pm12 an12 cd12 ct12), is_numeral := (PySem.W.fnOf "is_numeral" "is_numeral" (defArgs (topS 28)) (defBody (topS 28)) (defScope (topS 28)) .none kV13 dc13 pm13 an13 cd13 ct13), tokens_of := (PySem.W.fnOf "tokens_of" "tokens_of" (defArgs (topS 29)) (defBody (topS 29)) (defScope (topS 29)) .none kV14 dc14 pm14 an14 cd14 ct14), Cursor___init__ := (PySem.W.fnOf "__init__" "Cursor.__init__" (defArgs (inClass (topS 33) 0)) (defBody (inClass (topS 33) 0)) (defScope (inClass (topS 33) 0)) .none kV15 dc15 pm15 an15 cd15 ct15), Cursor_ahead := (PySem.W.fnOf "ahead" "Cursor.ahead" (defArgs (inClass (topS 33) 1)) (defBody (inClass (topS 33) 1)) (defScope (inClass (topS 33) 1)) .none kV16 dc16 pm16 an16 cd16 ct16), Cursor_take := (PySem.W.fnOf "take" "Cursor.take" (defArgs (inClass (topS 33) 3)) (defBody (inClass (topS 33) 3)) (defScope (inClass (topS 33) 3)) .none kV17 dc17 pm17 an17 cd17 ct17), Cursor_number := (PySem.W.fnOf "number" "Cursor.number" (defArgs (inClass (topS 33) 4)) (defBody (inClass (topS 33) 4)) (defScope (inClass (topS 33) 4)) .none kV18 dc18 pm18 an18 cd18 ct18), Cursor_end := (PySem.W.fnOf "end" "Cursor.end" (defArgs (inClass (topS 33) 5)) (defBody (inClass (topS 33) 5)) (defScope (inClass (topS 33) 5)) .none kV19 dc19 pm19 an19 cd19 ct19), read_atom := (PySem.W.fnOf "read_atom" "read_atom" (defArgs (topS 34)) (defBody (topS 34)) (defScope (topS 34)) .none kV20 dc20 pm20 an20 cd20 ct20), read_power := (PySem.W.fnOf "read_power" "read_power" (defArgs (topS 35)) (defBody (topS 35)) (defScope (topS 35)) .none kV21 dc21 pm21 an21 cd21 ct21), read_product := (PySem.W.fnOf "read_product" "read_product" (defArgs (topS 36)) (defBody (topS 36)) (defScope (topS 36)) .none kV22 dc22 pm22 an22 cd22 ct22), read_sum := (PySem.W.fnOf "read_sum" "read_sum" (defArgs (topS 37)) (defBody (topS 37)) (defScope (topS 37)) .none kV23 dc23 pm23 an23 cd23 ct23), read_formula := (PySem.W.fnOf "read_formula" "read_formula" (defArgs (topS 38)) (defBody (topS 38)) (defScope (topS 38)) .none kV24 dc24 pm24 an24 cd24 ct24), read_function := (PySem.W.fnOf "read_function" "read_function" (defArgs (topS 39)) (defBody (topS 39)) (defScope (topS 39)) .none kV25 dc25 pm25 an25 cd25 ct25), _law_draw := (PySem.W.fnOf "_law_draw" "_law_draw" (defArgs (topS 41)) (defBody (topS 41)) (defScope (topS 41)) .none kV26 dc26 pm26 an26 cd26 ct26), _law_any := (PySem.W.fnOf "_law_any" "_law_any" (defArgs (topS 42)) (defBody (topS 42)) (defScope (topS 42)) .none kV27 dc27 pm27 an27 cd27 ct27), _law_of := (PySem.W.fnOf "_law_of" "_law_of" (defArgs (topS 43)) (defBody (topS 43)) (defScope (topS 43)) .none kV28 dc28 pm28 an28 cd28 ct28), _law_same := (PySem.W.fnOf "_law_same" "_law_same" (defArgs (topS 44)) (defBody (topS 44)) (defScope (topS 44)) .none kV29 dc29 pm29 an29 cd29 ct29), _law_great := (PySem.W.fnOf "_law_great" "_law_great" (defArgs (topS 45)) (defBody (topS 45)) (defScope (topS 45)) .none kV30 dc30 pm30 an30 cd30 ct30), _law_trim := (PySem.W.fnOf "_law_trim" "_law_trim" (defArgs (topS 46)) (defBody (topS 46)) (defScope (topS 46)) .none kV31 dc31 pm31 an31 cd31 ct31), _law_add := (PySem.W.fnOf "_law_add" "_law_add" (defArgs (topS 47)) (defBody (topS 47)) (defScope (topS 47)) .none kV32 dc32 pm32 an32 cd32 ct32), _law_by := (PySem.W.fnOf "_law_by" "_law_by" (defArgs (topS 48)) (defBody (topS 48)) (defScope (topS 48)) .none kV33 dc33 pm33 an33 cd33 ct33), _law_row := (PySem.W.fnOf "_law_row" "_law_row" (defArgs (topS 49)) (defBody (topS 49)) (defScope (topS 49)) .none kV34 dc34 pm34 an34 cd34 ct34), _law_small_clock := (PySem.W.fnOf "_law_small_clock" "_law_small_clock" (defArgs (topS 50)) (defBody (topS 50)) (defScope (topS 50)) .none kV35 dc35 pm35 an35 cd35 ct35), _law_tokens := (PySem.W.fnOf "_law_tokens" "_law_tokens" (defArgs (topS 51)) (defBody (topS 51)) (defScope (topS 51)) .none kV36 dc36 pm36 an36 cd36 ct36), _law_written := (PySem.W.fnOf "_law_written" "_law_written" (defArgs (topS 52)) (defBody (topS 52)) (defScope (topS 52)) .none kV37 dc37 pm37 an37 cd37 ct37), _law_atom := (PySem.W.fnOf "_law_atom" "_law_atom" (defArgs (topS 53)) (defBody (topS 53)) (defScope (topS 53)) .none kV38 dc38 pm38 an38 cd38 ct38), _law_product := (PySem.W.fnOf "_law_product" "_law_product" (defArgs (topS 54)) (defBody (topS 54)) (defScope (topS 54)) .none kV39 dc39 pm39 an39 cd39 ct39), _law_sum := (PySem.W.fnOf "_law_sum" "_law_sum" (defArgs (topS 55)) (defBody (topS 55)) (defScope (topS 55)) .none kV40 dc40 pm40 an40 cd40 ct40), _law_plain_text := (PySem.W.fnOf "_law_plain_text" "_law_plain_text" (defArgs (topS 56)) (defBody (topS 56)) (defScope (topS 56)) .none kV41 dc41 pm41 an41 cd41 ct41), law := (PySem.W.fnOf "law" "law" (defArgs (topS 57)) (defBody (topS 57)) (defScope (topS 57)) .none kV42 dc42 pm42 an42 cd42 ct42) } := {
    F_is_integer := fun_mk (st := (topS 7)) l1 c1 k1
    b_is_integer := (fun_mk (st := (topS 7)) l1 c1 k1).binds (ps := ["value"]) fun _ _ _ _ _ _ us hl => match us, hl with | [_], _ => rfl
    m_is_integer := PySem.W.mg_of X G a1
    F_is_formula := fun_mk (st := (topS 10)) l2 c2 k2
    b_is_formula := (fun_mk (st := (topS 10)) l2 c2 k2).binds (ps := ["value"]) fun _ _ _ _ _ _ us hl => match us, hl with | [_], _ => rfl
    m_is_formula := PySem.W.mg_of X G a2
    F_checked_formulas := fun_mk (st := (topS 11)) l3 c3 k3
    m_checked_formulas := PySem.W.mg_of X G a3
    F_trimmed := fun_mk (st := (topS 12)) l4 c4 k4
    b_trimmed := (fun_mk (st := (topS 12)) l4 c4 k4).binds (ps := ["row"]) fun _ _ _ _ _ _ us hl => match us, hl with | [_], _ => rfl
    m_trimmed := PySem.W.mg_of X G a4
    F_fitting := fun_mk (st := (topS 13)) l5 c5 k5
    b_fitting := (fun_mk (st := (topS 13)) l5 c5 k5).binds (ps := ["row"]) fun _ _ _ _ _ _ us hl => match us, hl with | [_], _ => rfl
    m_fitting := PySem.W.mg_of X G a5
    F_row_sum := fun_mk (st := (topS 14)) l6 c6 k6
    b_row_sum := (fun_mk (st := (topS 14)) l6 c6 k6).binds (ps := ["one", "other", "number"]) fun _ _ _ _ _ _ us hl => match us, hl with | [_, _, _], _ => rfl
    m_row_sum := PySem.W.mg_of X G a6
    F_row_product := fun_mk (st := (topS 15)) l7 c7 k7
    b_row_product := (fun_mk (st := (topS 15)) l7 c7 k7).binds (ps := ["one", "other"]) fun _ _ _ _ _ _ us hl => match us, hl with | [_, _], _ => rfl
    m_row_product := PySem.W.mg_of X G a7
    F_power_text := fun_mk (st := (topS 17)) l8 c8 k8
    b_power_text := (fun_mk (st := (topS 17)) l8 c8 k8).binds (ps := ["many", "at"]) fun _ _ _ _ _ _ us hl => match us, hl with | [_, _], _ => rfl
    m_power_text := PySem.W.mg_of X G a8
    F_formula_text := fun_mk (st := (topS 18)) l9 c9 k9
    b_formula_text := (fun_mk (st := (topS 18)) l9 c9 k9).binds (ps := ["formula"]) fun _ _ _ _ _ _ us hl => match us, hl with | [_], _ => rfl
    m_formula_text := PySem.W.mg_of X G a9
    F_function_text := fun_mk (st := (topS 19)) l10 c10 k10
    b_function_text := (fun_mk (st := (topS 19)) l10 c10 k10).binds (ps := ["function"]) fun _ _ _ _ _ _ us hl => match us, hl with | [_], _ => rfl
    m_function_text := PySem.W.mg_of X G a10
    F_is_clock := fun_mk (st := (topS 23)) l11 c11 k11
    b_is_clock := (fun_mk (st := (topS 23)) l11 c11 k11).binds (ps := ["value"]) fun _ _ _ _ _ _ us hl => match us, hl with | [_], _ => rfl
    m_is_clock := PySem.W.mg_of X G a11
    F_checked_clock := fun_mk (st := (topS 24)) l12 c12 k12
    b_checked_clock := (fun_mk (st := (topS 24)) l12 c12 k12).binds (ps := ["m"]) fun _ _ _ _ _ _ us hl => match us, hl with | [_], _ => rfl
    m_checked_clock := PySem.W.mg_of X G a12
    F_is_numeral := fun_mk (st := (topS 28)) l13 c13 k13
    b_is_numeral := (fun_mk (st := (topS 28)) l13 c13 k13).binds (ps := ["token"]) fun _ _ _ _ _ _ us hl => match us, hl with | [_], _ => rfl
    m_is_numeral := PySem.W.mg_of X G a13
    F_tokens_of := fun_mk (st := (topS 29)) l14 c14 k14
    b_tokens_of := (fun_mk (st := (topS 29)) l14 c14 k14).binds (ps := ["text"]) fun _ _ _ _ _ _ us hl => match us, hl with | [_], _ => rfl
    m_tokens_of := PySem.W.mg_of X G a14
    F_Cursor___init__ := fun_mk (st := (inClass (topS 33) 0)) l15 c15 k15
    b_Cursor___init__ := (fun_mk (st := (inClass (topS 33) 0)) l15 c15 k15).binds (ps := ["self", "text"]) fun _ _ _ _ _ _ us hl => match us, hl with | [_, _], _ => rfl
    F_Cursor_ahead := fun_mk (st := (inClass (topS 33) 1)) l16 c16 k16
    b_Cursor_ahead := (fun_mk (st := (inClass (topS 33) 1)) l16 c16 k16).binds (ps := ["self"]) fun _ _ _ _ _ _ us hl => match us, hl with | [_], _ => rfl
    me_Cursor_ahead := ⟨a16, i16, k16⟩
    F_Cursor_take := fun_mk (st := (inClass (topS 33) 3)) l17 c17 k17
    b_Cursor_take := (fun_mk (st := (inClass (topS 33) 3)) l17 c17 k17).binds (ps := ["self", "token"]) fun _ _ _ _ _ _ us hl => match us, hl with | [_, _], _ => rfl
    me_Cursor_take := ⟨a17, i17, k17⟩
    F_Cursor_number := fun_mk (st := (inClass (topS 33) 4)) l18 c18 k18
    b_Cursor_number := (fun_mk (st := (inClass (topS 33) 4)) l18 c18 k18).binds (ps := ["self", "digits", "high"]) fun _ _ _ _ _ _ us hl => match us, hl with | [_, _, _], _ => rfl
    me_Cursor_number := ⟨a18, i18, k18⟩
    F_Cursor_end := fun_mk (st := (inClass (topS 33) 5)) l19 c19 k19
    b_Cursor_end := (fun_mk (st := (inClass (topS 33) 5)) l19 c19 k19).binds (ps := ["self"]) fun _ _ _ _ _ _ us hl => match us, hl with | [_], _ => rfl
    me_Cursor_end := ⟨a19, i19, k19⟩
    F_read_atom := fun_mk (st := (topS 34)) l20 c20 k20
    b_read_atom := (fun_mk (st := (topS 34)) l20 c20 k20).binds (ps := ["cursor", "deep"]) fun _ _ _ _ _ _ us hl => match us, hl with | [_, _], _ => rfl
    m_read_atom := PySem.W.mg_of X G a20
    F_read_power := fun_mk (st := (topS 35)) l21 c21 k21
    b_read_power := (fun_mk (st := (topS 35)) l21 c21 k21).binds (ps := ["cursor", "deep"]) fun _ _ _ _ _ _ us hl => match us, hl with | [_, _], _ => rfl
    m_read_power := PySem.W.mg_of X G a21
    F_read_product := fun_mk (st := (topS 36)) l22 c22 k22
    b_read_product := (fun_mk (st := (topS 36)) l22 c22 k22).binds (ps := ["cursor", "deep"]) fun _ _ _ _ _ _ us hl => match us, hl with | [_, _], _ => rfl
    m_read_product := PySem.W.mg_of X G a22
    F_read_sum := fun_mk (st := (topS 37)) l23 c23 k23
    b_read_sum := (fun_mk (st := (topS 37)) l23 c23 k23).binds (ps := ["cursor", "deep"]) fun _ _ _ _ _ _ us hl => match us, hl with | [_, _], _ => rfl
    m_read_sum := PySem.W.mg_of X G a23
    F_read_formula := fun_mk (st := (topS 38)) l24 c24 k24
    b_read_formula := (fun_mk (st := (topS 38)) l24 c24 k24).binds (ps := ["text"]) fun _ _ _ _ _ _ us hl => match us, hl with | [_], _ => rfl
    m_read_formula := PySem.W.mg_of X G a24
    F_read_function := fun_mk (st := (topS 39)) l25 c25 k25
    b_read_function := (fun_mk (st := (topS 39)) l25 c25 k25).binds (ps := ["m", "text"]) fun _ _ _ _ _ _ us hl => match us, hl with | [_, _], _ => rfl
    m_read_function := PySem.W.mg_of X G a25
    F__law_draw := fun_mk (st := (topS 41)) l26 c26 k26
    b__law_draw := (fun_mk (st := (topS 41)) l26 c26 k26).binds (ps := ["script", "salt"]) fun _ _ _ _ _ _ us hl => match us, hl with | [_, _], _ => rfl
    m__law_draw := PySem.W.mg_of X G a26
    F__law_any := fun_mk (st := (topS 42)) l27 c27 k27
    b__law_any := (fun_mk (st := (topS 42)) l27 c27 k27).binds (ps := ["deal", "bound"]) fun _ _ _ _ _ _ us hl => match us, hl with | [_, _], _ => rfl
    m__law_any := PySem.W.mg_of X G a27
    F__law_of := fun_mk (st := (topS 43)) l28 c28 k28
    b__law_of := (fun_mk (st := (topS 43)) l28 c28 k28).binds (ps := ["deal", "some"]) fun _ _ _ _ _ _ us hl => match us, hl with | [_, _], _ => rfl
    m__law_of := PySem.W.mg_of X G a28
    F__law_same := fun_mk (st := (topS 44)) l29 c29 k29
    b__law_same := (fun_mk (st := (topS 44)) l29 c29 k29).binds (ps := ["value", "due"]) fun _ _ _ _ _ _ us hl => match us, hl with | [_, _], _ => rfl
    m__law_same := PySem.W.mg_of X G a29
    F__law_great := fun_mk (st := (topS 45)) l30 c30 k30
    b__law_great := (fun_mk (st := (topS 45)) l30 c30 k30).binds (ps := ["deal"]) fun _ _ _ _ _ _ us hl => match us, hl with | [_], _ => rfl
    m__law_great := PySem.W.mg_of X G a30
    F__law_trim := fun_mk (st := (topS 46)) l31 c31 k31
    b__law_trim := (fun_mk (st := (topS 46)) l31 c31 k31).binds (ps := ["row"]) fun _ _ _ _ _ _ us hl => match us, hl with | [_], _ => rfl
    m__law_trim := PySem.W.mg_of X G a31
    F__law_add := fun_mk (st := (topS 47)) l32 c32 k32
    b__law_add := (fun_mk (st := (topS 47)) l32 c32 k32).binds (ps := ["one", "other", "many"]) fun _ _ _ _ _ _ us hl => match us, hl with | [_, _, _], _ => rfl
    m__law_add := PySem.W.mg_of X G a32
    F__law_by := fun_mk (st := (topS 48)) l33 c33 k33
    b__law_by := (fun_mk (st := (topS 48)) l33 c33 k33).binds (ps := ["one", "other"]) fun _ _ _ _ _ _ us hl => match us, hl with | [_, _], _ => rfl
    m__law_by := PySem.W.mg_of X G a33
    F__law_row := fun_mk (st := (topS 49)) l34 c34 k34
    b__law_row := (fun_mk (st := (topS 49)) l34 c34 k34).binds (ps := ["deal", "most"]) fun _ _ _ _ _ _ us hl => match us, hl with | [_, _], _ => rfl
    m__law_row := PySem.W.mg_of X G a34
    F__law_small_clock := fun_mk (st := (topS 50)) l35 c35 k35
    b__law_small_clock := (fun_mk (st := (topS 50)) l35 c35 k35).binds (ps := ["deal", "most"]) fun _ _ _ _ _ _ us hl => match us, hl with | [_, _], _ => rfl
    m__law_small_clock := PySem.W.mg_of X G a35
    F__law_tokens := fun_mk (st := (topS 51)) l36 c36 k36
    b__law_tokens := (fun_mk (st := (topS 51)) l36 c36 k36).binds (ps := ["text"]) fun _ _ _ _ _ _ us hl => match us, hl with | [_], _ => rfl
    m__law_tokens := PySem.W.mg_of X G a36
    F__law_written := fun_mk (st := (topS 52)) l37 c37 k37
    b__law_written := (fun_mk (st := (topS 52)) l37 c37 k37).binds (ps := ["deal", "words"]) fun _ _ _ _ _ _ us hl => match us, hl with | [_, _], _ => rfl
    m__law_written := PySem.W.mg_of X G a37
    F__law_atom := fun_mk (st := (topS 53)) l38 c38 k38
    b__law_atom := (fun_mk (st := (topS 53)) l38 c38 k38).binds (ps := ["deal", "deep"]) fun _ _ _ _ _ _ us hl => match us, hl with | [_, _], _ => rfl
    m__law_atom := PySem.W.mg_of X G a38
    F__law_product := fun_mk (st := (topS 54)) l39 c39 k39
    b__law_product := (fun_mk (st := (topS 54)) l39 c39 k39).binds (ps := ["deal", "deep"]) fun _ _ _ _ _ _ us hl => match us, hl with | [_, _], _ => rfl
    m__law_product := PySem.W.mg_of X G a39
    F__law_sum := fun_mk (st := (topS 55)) l40 c40 k40
    b__law_sum := (fun_mk (st := (topS 55)) l40 c40 k40).binds (ps := ["deal", "deep", "most"]) fun _ _ _ _ _ _ us hl => match us, hl with | [_, _, _], _ => rfl
    m__law_sum := PySem.W.mg_of X G a40
    F__law_plain_text := fun_mk (st := (topS 56)) l41 c41 k41
    b__law_plain_text := (fun_mk (st := (topS 56)) l41 c41 k41).binds (ps := ["row"]) fun _ _ _ _ _ _ us hl => match us, hl with | [_], _ => rfl
    m__law_plain_text := PySem.W.mg_of X G a41
    F_law := fun_mk (st := (topS 57)) l42 c42 k42
    b_law := (fun_mk (st := (topS 57)) l42 c42 k42).binds (ps := ["script"]) fun _ _ _ _ _ _ us hl => match us, hl with | [_], _ => rfl
    m_law := PySem.W.mg_of X G a42
    m_Cursor := PySem.W.mg_of X G aCCursor
    cl_Cursor := ⟨pgCursor, hdCursor, poCursor, saCursor⟩
    M_Cursor := ⟨mkCursor, a15, i15, kcCursor⟩
    na_tokens := yCursor0
    na_at := yCursor1
    n_abs := PySem.W.mg_none_of X G z0
    n_all := PySem.W.mg_none_of X G z1
    n_any := PySem.W.mg_none_of X G z2
    n_bool := PySem.W.mg_none_of X G z3
    n_enumerate := PySem.W.mg_none_of X G z4
    n_int := PySem.W.mg_none_of X G z5
    n_isinstance := PySem.W.mg_none_of X G z6
    n_len := PySem.W.mg_none_of X G z7
    n_list := PySem.W.mg_none_of X G z8
    n_max := PySem.W.mg_none_of X G z9
    n_min := PySem.W.mg_none_of X G z10
    n_range := PySem.W.mg_none_of X G z11
    n_reversed := PySem.W.mg_none_of X G z12
    n_str := PySem.W.mg_none_of X G z13
    n_tuple := PySem.W.mg_none_of X G z14
    n_zip := PySem.W.mg_none_of X G z15
    c_MOST_PLACES := ⟨_, PySem.W.mg_of X G w0, ⟨_, rfl⟩⟩
    c_MOST_CLOCK := ⟨_, PySem.W.mg_of X G w1, ⟨_, rfl⟩⟩
    c_MOST_HOURS := ⟨_, PySem.W.mg_of X G w2, ⟨_, rfl⟩⟩
    c_MARKS := ⟨_, PySem.W.mg_of X G w3, ⟨_, rfl⟩⟩
    c_BLANKS := ⟨_, PySem.W.mg_of X G w4, ⟨_, rfl⟩⟩
    c_MOST_DEEP := ⟨_, PySem.W.mg_of X G w5, ⟨_, rfl⟩⟩
    c_MOST_DIGITS := ⟨_, PySem.W.mg_of X G w6, ⟨_, rfl⟩⟩
    kb_formula_text := ⟨fun s us ws _ l1 l2 => match us, ws, l1, l2 with | [], [a0], _, _ => .of_eq rfl, fun r1 r2 => r1.append r2⟩
    kb_function_text := ⟨fun s us ws _ l1 l2 => match us, ws, l1, l2 with | [], [a0], _, _ => .of_eq rfl, fun r1 r2 => r1.append r2⟩
    kb_read_formula := ⟨fun s us ws _ l1 l2 => match us, ws, l1, l2 with | [], [a0], _, _ => .of_eq rfl, fun r1 r2 => r1.append r2⟩
    kb_read_function := ⟨fun s us ws _ l1 l2 => match us, ws, l1, l2 with | [], [a0, a1], _, _ => .of_eq rfl, fun r1 r2 => r1.append r2⟩
    dig := ⟨by unfold PySem.W.nsOkIn; rw [lS]; exact dS1, dS2⟩
  }
  exact ⟨_, fun s v => .of_eq rfl, fun base _ _ => (ok_law T).imp fun vs H Q E h => law_imp h⟩
theorem walk {l : PySem.W.OpenLaw} {q : Program} {loose : List Str} {XP : (Str → Option Value) → Heap → Prop} {YP : World → Heap → Prop} {d : DefRec} {K : Params → PySem.W.Frag} (hn : l.most = some 63) (hdf : d.params.defaults = []) (hY : ∀ (w : World) (h : Heap), YP w h → (K w.params).In h)
    (F : ∀ (w : World) (mg : Str → Option Value) (fa : Addr) (h : Heap), (K w.params).In h → h.Ns mainGlobals mg → mg d.name = some (.ref fa) → ∃ fd : FuncData, (∀ (s : Shared) (u : Value), BindsTo s fd ⟨[u], []⟩ [("script", u)]) ∧ ∀ base : Heap, (K w.params).In base → base.Ns mainGlobals mg → FnOk l.prog w (K w.params) mg base CX0 97 fa fd ["script"] (spLaw (K w.params))) : PySem.W.WalkO q loose XP YP l.row.toRowW d [] (fun f vs => PySem.call f vs) :=
  L2.walk_of (n := 63) (k := 97) (x := "script") (CX := fun _ => CX0) (sp := fun w => spLaw (K w.params)) hn (by decide) hdf ⟨rfl, by decide, by decide⟩ hY F (fun _ _ a ns hl _ hS => ⟨a, ns, rfl, hS, hl, fun _ => rfl⟩) fun _ _ _ _ _ z => z
end Y
open PySem PySem.W PyProof.Rows in
set_option maxRecDepth 100000 in
set_option maxHeartbeats 0 in
theorem PySem.Challenge.cw_samebyclock_k79_whole_texts_written_and_holds : PySem.Challenge.rw_samebyclock_k79_whole_texts_written_and.Holds := by
  w_on; o_law; k_head; (case hw => w_witness2)
  k_fill
  refine Y.walk (l := PySem.Challenge.rw_samebyclock_k79_whole_texts_written_and) rfl rfl (fun w h Y => PySem.W.kIn_of Y) ?F
  case F =>
    intro w mg fa h KX G hmg
    refine' Y.all_mk KX G hmg ?aCCursor ?a1 ?l1 ?c1 ?k1 ?a2 ?l2 ?c2 ?k2 ?a3 ?l3 ?c3 ?k3 ?a4 ?l4 ?c4 ?k4 ?a5 ?l5 ?c5 ?k5 ?a6 ?l6 ?c6 ?k6 ?a7 ?l7 ?c7 ?k7 ?a8 ?l8 ?c8 ?k8 ?a9 ?l9 ?c9 ?k9 ?a10 ?l10 ?c10 ?k10 ?a11 ?l11 ?c11 ?k11 ?a12 ?l12 ?c12 ?k12 ?a13 ?l13 ?c13 ?k13 ?a14 ?l14 ?c14 ?k14 ?a15 ?i15 ?l15 ?c15 ?k15 ?a16 ?i16 ?l16 ?c16 ?k16 ?a17 ?i17 ?l17 ?c17 ?k17 ?a18 ?i18 ?l18 ?c18 ?k18 ?a19 ?i19 ?l19 ?c19 ?k19 ?a20 ?l20 ?c20 ?k20 ?a21 ?l21 ?c21 ?k21 ?a22 ?l22 ?c22 ?k22 ?a23 ?l23 ?c23 ?k23 ?a24 ?l24 ?c24 ?k24 ?a25 ?l25 ?c25 ?k25 ?a26 ?l26 ?c26 ?k26 ?a27 ?l27 ?c27 ?k27 ?a28 ?l28 ?c28 ?k28 ?a29 ?l29 ?c29 ?k29 ?a30 ?l30 ?c30 ?k30 ?a31 ?l31 ?c31 ?k31 ?a32 ?l32 ?c32 ?k32 ?a33 ?l33 ?c33 ?k33 ?a34 ?l34 ?c34 ?k34 ?a35 ?l35 ?c35 ?k35 ?a36 ?l36 ?c36 ?k36 ?a37 ?l37 ?c37 ?k37 ?a38 ?l38 ?c38 ?k38 ?a39 ?l39 ?c39 ?k39 ?a40 ?l40 ?c40 ?k40 ?a41 ?l41 ?c41 ?k41 ?a42 ?l42 ?c42 ?k42 ?pgCursor ?hdCursor ?poCursor ?saCursor ?mkCursor ?kcCursor ?yCursor0 ?yCursor1 ?z0 ?z1 ?z2 ?z3 ?z4 ?z5 ?z6 ?z7 ?z8 ?z9 ?z10 ?z11 ?z12 ?z13 ?z14 ?z15 ?w0 ?w1 ?w2 ?w3 ?w4 ?w5 ?w6 ?lS ?dS1 ?dS2
    (case aCCursor => k_is); (case a1 => k_is); (case l1 => k_is); (case c1 => k_is); (case k1 => k_is); (case a2 => k_is); (case l2 => k_is); (case c2 => k_is)
    (case k2 => k_is); (case a3 => k_is); (case l3 => k_is); (case c3 => k_is); (case k3 => k_is); (case a4 => k_is); (case l4 => k_is); (case c4 => k_is)
    (case k4 => k_is); (case a5 => k_is); (case l5 => k_is); (case c5 => k_is); (case k5 => k_is); (case a6 => k_is); (case l6 => k_is); (case c6 => k_is)
    (case k6 => k_is); (case a7 => k_is); (case l7 => k_is); (case c7 => k_is); (case k7 => k_is); (case a8 => k_is); (case l8 => k_is); (case c8 => k_is)
    (case k8 => k_is); (case a9 => k_is); (case l9 => k_is); (case c9 => k_is); (case k9 => k_is); (case a10 => k_is); (case l10 => k_is); (case c10 => k_is)
    (case k10 => k_is); (case a11 => k_is); (case l11 => k_is); (case c11 => k_is); (case k11 => k_is); (case a12 => k_is); (case l12 => k_is); (case c12 => k_is)
    (case k12 => k_is); (case a13 => k_is); (case l13 => k_is); (case c13 => k_is); (case k13 => k_is); (case a14 => k_is); (case l14 => k_is); (case c14 => k_is)
    (case k14 => k_is); (case a15 => k_is); (case i15 => k_is); (case l15 => k_is); (case c15 => k_is); (case k15 => k_is); (case a16 => k_is); (case i16 => k_is)
    (case l16 => k_is); (case c16 => k_is); (case k16 => k_is); (case a17 => k_is); (case i17 => k_is); (case l17 => k_is); (case c17 => k_is); (case k17 => k_is)
    (case a18 => k_is); (case i18 => k_is); (case l18 => k_is); (case c18 => k_is); (case k18 => k_is); (case a19 => k_is); (case i19 => k_is); (case l19 => k_is)
    (case c19 => k_is); (case k19 => k_is); (case a20 => k_is); (case l20 => k_is); (case c20 => k_is); (case k20 => k_is); (case a21 => k_is); (case l21 => k_is)
    (case c21 => k_is); (case k21 => k_is); (case a22 => k_is); (case l22 => k_is); (case c22 => k_is); (case k22 => k_is); (case a23 => k_is); (case l23 => k_is)
    (case c23 => k_is); (case k23 => k_is); (case a24 => k_is); (case l24 => k_is); (case c24 => k_is); (case k24 => k_is); (case a25 => k_is); (case l25 => k_is)
    (case c25 => k_is); (case k25 => k_is); (case a26 => k_is); (case l26 => k_is); (case c26 => k_is); (case k26 => k_is); (case a27 => k_is); (case l27 => k_is)
    (case c27 => k_is); (case k27 => k_is); (case a28 => k_is); (case l28 => k_is); (case c28 => k_is); (case k28 => k_is); (case a29 => k_is); (case l29 => k_is)
    (case c29 => k_is); (case k29 => k_is); (case a30 => k_is); (case l30 => k_is); (case c30 => k_is); (case k30 => k_is); (case a31 => k_is); (case l31 => k_is)
    (case c31 => k_is); (case k31 => k_is); (case a32 => k_is); (case l32 => k_is); (case c32 => k_is); (case k32 => k_is); (case a33 => k_is); (case l33 => k_is)
    (case c33 => k_is); (case k33 => k_is); (case a34 => k_is); (case l34 => k_is); (case c34 => k_is); (case k34 => k_is); (case a35 => k_is); (case l35 => k_is)
    (case c35 => k_is); (case k35 => k_is); (case a36 => k_is); (case l36 => k_is); (case c36 => k_is); (case k36 => k_is); (case a37 => k_is); (case l37 => k_is)
    (case c37 => k_is); (case k37 => k_is); (case a38 => k_is); (case l38 => k_is); (case c38 => k_is); (case k38 => k_is); (case a39 => k_is); (case l39 => k_is)
    (case c39 => k_is); (case k39 => k_is); (case a40 => k_is); (case l40 => k_is); (case c40 => k_is); (case k40 => k_is); (case a41 => k_is); (case l41 => k_is)
    (case c41 => k_is); (case k41 => k_is); (case a42 => k_is); (case l42 => k_is); (case c42 => k_is); (case k42 => k_is); (case pgCursor => k_is); (case hdCursor => k_is)
    (case poCursor => k_is); (case saCursor => k_is); (case mkCursor => k_is); (case kcCursor => k_is); (case yCursor0 => k_is); (case yCursor1 => k_is); (case z0 => k_is); (case z1 => k_is)
    (case z2 => k_is); (case z3 => k_is); (case z4 => k_is); (case z5 => k_is); (case z6 => k_is); (case z7 => k_is); (case z8 => k_is); (case z9 => k_is)
    (case z10 => k_is); (case z11 => k_is); (case z12 => k_is); (case z13 => k_is); (case z14 => k_is); (case z15 => k_is); (case w0 => k_is); (case w1 => k_is)
    (case w2 => k_is); (case w3 => k_is); (case w4 => k_is); (case w5 => k_is); (case w6 => k_is); (case lS => k_is); (case dS1 => (first | decide +kernel | simp | rfl)); (case dS2 => k_is)
