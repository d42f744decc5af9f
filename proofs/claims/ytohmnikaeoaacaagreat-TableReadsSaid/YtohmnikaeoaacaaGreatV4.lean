/- An abstract evaluator of the program's code, and that it is right: part 4. -/
import Derived.ChangeSame
import Derived.OpenShut
import Derived.ProofKit
import Derived.WalkKit
import Derived.Test.YtohmnikaeoaacaaGreatV3
set_option linter.unusedSimpArgs false
set_option linter.unusedVariables false
/- The evaluator once more, laid out for the kernel: the same answers. -/
namespace Go.Vm
open Go
abbrev R2 := Option (AV × Heap)
abbrev RR := Option (Res × Heap)
abbrev R3 := Option (ExitA × List AV × Heap)
noncomputable section
def getX (n : Nat) (env : List AV) : AV := @Nat.rec (fun _ => List AV → AV) (fun l => @List.rec AV (fun _ => AV) .undef (fun a _ _ => a) l) (fun _ ih l => @List.rec AV (fun _ => AV) .undef (fun _ r _ => ih r) l) n env
theorem getX_eq : ∀ (n : Nat) (env : List AV), getX n env = env.getD n .undef
  | 0, [] => rfl
  | 0, a :: r => rfl
  | n + 1, [] => rfl
  | n + 1, a :: r => by
    show getX n r = _
    rw [getX_eq n r]; rfl
def setX (n : Nat) (v : AV) (env : List AV) : List AV := @Nat.rec (fun _ => List AV → List AV) (fun l => @List.rec AV (fun _ => List AV) [] (fun _ r _ => v :: r) l) (fun _ ih l => @List.rec AV (fun _ => List AV) [] (fun a r _ => a :: ih r) l) n env
theorem setX_eq : ∀ (n : Nat) (v : AV) (env : List AV), setX n v env = env.set n v
  | 0, v, [] => rfl
  | 0, v, a :: r => rfl
  | n + 1, v, [] => rfl
  | n + 1, v, a :: r => by
    show a :: setX n v r = _
    rw [setX_eq n v r]; rfl
def Arg.xv (x : Arg) (env : List AV) : AV := @Arg.rec (fun _ => AV) (fun n => getX n env) (fun v => .d v) x
theorem xv_eq (x : Arg) (env : List AV) : x.xv env = x.ev env := by
  cases x with
  | t n => exact getX_eq n env
  | c v => rfl
def b_mv (x : Arg) (env : List AV) (H : Heap) : Option (AV × Heap) :=
  some (x.xv env, H)
def b_frz (x : Arg) (env : List AV) (H : Heap) : Option (AV × Heap) :=
  match fz (x.xv env) H with
    | some (y, H') => some (.d y, H')
    | none => none
def b_nilRow (ty : Nat) (sz : Nat) (env : List AV) (H : Heap) : Option (AV × Heap) :=
  some (.row H.length 0, H ++ [.row ty sz [] 0 0])
def b_pick (c : Arg) (a : Arg) (b : Arg) (env : List AV) (H : Heap) : Option (AV × Heap) :=
  match c.xv env with
    | .d (.bool t) => some (if t then a.xv env else b.xv env, H)
    | _ => none
def b_alloc (ty : Nat) (ini : List Ini) (env : List AV) (H : Heap) : Option (AV × Heap) :=
  let (cs, H') := inis ini H; some (.bptr H'.length 0, H' ++ [.box ty cs])
def b_box (ty : Nat) (x : Arg) (env : List AV) (H : Heap) : Option (AV × Heap) :=
  match x.xv env with
    | .undef => none
    | v => some (.bptr H.length 0, H ++ [.box ty v.cells])
def b_build (zero : List FV) (parts : List (Nat × Nat × Arg)) (env : List AV) (H : Heap) : Option (AV × Heap) :=
  match fill env parts (zero.map .d) with
    | some cs => some (.agg cs, H)
    | none => none
def b_litF (ty : Nat) (sz : Nat) (n : Nat) (zero : List FV) (parts : List (Nat × Arg)) (env : List AV) (H : Heap) : Option (AV × Heap) :=
  match fill env (parts.map fun (i, a) => (i * sz, sz, a)) ((List.replicate n (zero.map AV.d)).flatten) with
    | some cs => match toFVs cs with
      | some fs => some (.d (if n = 0 then .emp else .sl ((List.range n).map fun i => ((fs.map FV.norm).drop (i * sz)).take sz)), H)
      | none => none
    | none => none
def b_lit (ty : Nat) (sz : Nat) (n : Nat) (zero : List FV) (parts : List (Nat × Arg)) (env : List AV) (H : Heap) : Option (AV × Heap) :=
  match fill env (parts.map fun (i, a) => (i * sz, sz, a)) ((List.replicate n (zero.map AV.d)).flatten) with
    | some cs => match fzs cs H with
      | some (fs, H') => some (.row H'.length 0, H' ++ [.row ty sz ((List.range n).map fun i => (fs.drop (i * sz)).take sz) 0 0])
      | none => none
    | none => none
def b_lits (ty : Nat) (n : Nat) (parts : List (Nat × Arg)) (env : List AV) (H : Heap) : Option (AV × Heap) :=
  match fill env (parts.map fun (i, a) => (i, 1, a)) (List.replicate n (.d .nil)) with
    | some cs => some (.row H.length 0, H ++ [.rows ty cs 0 0])
    | none => none
def b_load (n : Nat) (agg : Bool) (a : Arg) (env : List AV) (H : Heap) : Option (AV × Heap) :=
  match a.xv env with
    | .bptr b j => match H[b]? with
      | some (.box _ cs) => if j + n ≤ cs.length then some (if agg then .agg ((cs.drop j).take n) else cs.getD j .undef, H) else none
      | _ => none
    | .eptr b g i j => match H[b]? with
      | some (.row _ _ el g' _) => match el[i]? with
        | some cs => if g = g' ∧ j + n ≤ cs.length then some (if agg then .agg (((cs.drop j).take n).map .d) else .d (cs.getD j .nil), H) else none
        | none => none
      | some (.rows _ el g' _) => match el[i]? with
        | some v => if g = g' ∧ j = 0 ∧ n = 1 ∧ agg = false then some (v, H) else none
        | none => none
      | _ => none
    | .fptr cs => if n ≤ cs.length then some (if agg then .agg ((cs.take n).map .d) else .d (cs.getD 0 .nil), H) else none
    | _ => none
def b_store (n : Nat) (a : Arg) (x : Arg) (env : List AV) (H : Heap) : Option (AV × Heap) :=
  match a.xv env with
    | .bptr b j => match H[b]? with
      | some (.box ty cs) => if (x.xv env).cells.length = n ∧ j + n ≤ cs.length ∧ (x.xv env).cells.all one = true then some (.undef, H.set b (.box ty (putAt cs j (x.xv env).cells))) else none
      | _ => none
    | .eptr b g i j => match H[b]? with
      | some (.rows ty el g' p) => if g = g' ∧ p ≤ i ∧ i < el.length ∧ n = 1 ∧ j = 0 ∧ (x.xv env).cells.length = 1 ∧ (x.xv env).cells.all one = true then some (.undef, H.set b (.rows ty (el.set i ((x.xv env).cells.getD 0 .undef)) g' p)) else none
      | _ => match fzs (x.xv env).cells H with
      | some (fs, H') => match H'[b]? with
        | some (.row ty sz el g' p) => match el[i]? with
          | some cs => if g = g' ∧ p ≤ i ∧ fs.length = n ∧ j + n ≤ cs.length then some (.undef, H'.set b (.row ty sz (el.set i (putAt cs j fs)) g' p)) else none
          | none => none
        | _ => none
      | none => none
    | _ => none
def b_chk (x : Arg) (env : List AV) (H : Heap) : Option (AV × Heap) :=
  if cur H (x.xv env) then some (x.xv env, H) else none
def b_bin (o : BinOp) (x : Arg) (y : Arg) (env : List AV) (H : Heap) : Option (AV × Heap) :=
  (bin o (x.xv env) (y.xv env)).map (·, H)
def b_eqA (n : Nat) (q : Bool) (x : Arg) (y : Arg) (env : List AV) (H : Heap) : Option (AV × Heap) :=
  (eqA n q (x.xv env) (y.xv env)).map (·, H)
def b_eqB (q : Bool) (x : Arg) (y : Arg) (env : List AV) (H : Heap) : Option (AV × Heap) :=
  match x.xv env, y.xv env with
    | .d (.bool a), .d (.bool b) => some (.d (.bool (if q then !(a == b) else a == b)), H)
    | _, _ => none
def b_un (o : UnOp) (x : Arg) (env : List AV) (H : Heap) : Option (AV × Heap) :=
  match x.xv env with
    | .d x => (un o x).map (.d ·, H)
    | _ => none
def b_conv (k : IntKind) (x : Arg) (env : List AV) (H : Heap) : Option (AV × Heap) :=
  match x.xv env with
    | .d (.int _ n) => some (.d (.int k (k.wrap n)), H)
    | _ => none
def b_i2f (k : FloatKind) (x : Arg) (env : List AV) (H : Heap) : Option (AV × Heap) :=
  match x.xv env with
    | .d (.int _ n) => some (.d (.float k (k.nearest n)), H)
    | _ => none
def b_b2s (x : Arg) (env : List AV) (H : Heap) : Option (AV × Heap) :=
  match elems (x.xv env) H with
    | some xs => (strOf xs).map fun l => (.d (.str ⟨l.toArray⟩), H)
    | none => none
def b_fbits (x : Arg) (env : List AV) (H : Heap) : Option (AV × Heap) :=
  match x.xv env with
    | .d (.float .f64 b) => some (.d (.int .u64 b), H)
    | _ => none
def b_fof (x : Arg) (env : List AV) (H : Heap) : Option (AV × Heap) :=
  match x.xv env with
    | .d (.int .u64 n) => some (.d (.float .f64 n.toNat), H)
    | _ => none
def b_iface (t : Nat) (x : Arg) (env : List AV) (H : Heap) : Option (AV × Heap) :=
  some (.iface t (x.xv env), H)
def b_mkf (f : Nat) (caps : List Arg) (env : List AV) (H : Heap) : Option (AV × Heap) :=
  some (.func f (caps.map (·.xv env)), H)
def b_mkmap (ty : Nat) (env : List AV) (H : Heap) : Option (AV × Heap) :=
  some (.map H.length, H ++ [.map ty []])
def b_mksl (ty : Nat) (sz : Nat) (bytes : Nat) (zero : List FV) (n : Arg) (c : Arg) (env : List AV) (H : Heap) : Option (AV × Heap) :=
  match intOf (n.xv env), intOf (c.xv env) with
    | some n, some c => if 0 ≤ n ∧ n ≤ c ∧ c * bytes ≤ maxBytes then some (.row H.length 0, H ++ [.row ty sz (List.replicate n.toNat zero) 0 0]) else none
    | _, _ => none
def b_mkrows (ty : Nat) (bytes : Nat) (n : Arg) (c : Arg) (env : List AV) (H : Heap) : Option (AV × Heap) :=
  match intOf (n.xv env), intOf (c.xv env) with
    | some n, some c => if 0 ≤ n ∧ n ≤ c ∧ c * bytes ≤ maxBytes then some (.row H.length 0, H ++ [.rows ty (List.replicate n.toNat (.d .nil)) 0 0]) else none
    | _, _ => none
def b_fld (off : Nat) (a : Arg) (env : List AV) (H : Heap) : Option (AV × Heap) :=
  if cur H (a.xv env) && isPtr (a.xv env) then some (shift off (a.xv env), H) else none
def b_part (off : Nat) (n : Nat) (agg : Bool) (x : Arg) (env : List AV) (H : Heap) : Option (AV × Heap) :=
  match x.xv env with
    | .agg cs => if off + n ≤ cs.length then some (if agg then .agg ((cs.drop off).take n) else cs.getD off .undef, H) else none
    | _ => none
def b_ixa (sz : Nat) (x : Arg) (i : Arg) (env : List AV) (H : Heap) : Option (AV × Heap) :=
  match intOf (i.xv env) with
    | some i => match x.xv env with
      | .d (.sl xs) => if 0 ≤ i then match xs[i.toNat]? with
        | some cs => if cs.length = sz then some (.fptr cs, H) else none
        | none => none else none
      | .row b g => match H[b]? with
        | some (.row _ sz' el g' _) => if 0 ≤ i ∧ i < el.length ∧ g = g' ∧ sz = sz' then some (.eptr b g i.toNat 0, H) else none
        | some (.rows _ el g' _) => if 0 ≤ i ∧ i < el.length ∧ g = g' ∧ sz = 1 then some (.eptr b g i.toNat 0, H) else none
        | _ => none
      | .win b g lo n => match H[b]? with
        | some (.row _ sz' el g' _) => if 0 ≤ i ∧ i < n ∧ g = g' ∧ sz = sz' then some (.eptr b g (lo + i.toNat) 0, H) else none
        | _ => none
      | _ => none
    | none => none
def b_ixp (sz : Nat) (len : Nat) (x : Arg) (i : Arg) (env : List AV) (H : Heap) : Option (AV × Heap) :=
  match intOf (i.xv env) with
    | some i => if 0 ≤ i ∧ i < len then (if cur H (x.xv env) && isPtr (x.xv env) then some (shift (i.toNat * sz) (x.xv env), H) else none) else none
    | none => none
def b_ixs (x : Arg) (i : Arg) (env : List AV) (H : Heap) : Option (AV × Heap) :=
  match intOf (i.xv env), x.xv env with
    | some i, .d (.str s) => if 0 ≤ i then match s[i.toNat]? with
      | some b => some (.d (.int .u8 b.toNat), H)
      | none => none else none
    | _, _ => none
def b_ixv (sz : Nat) (len : Nat) (agg : Bool) (x : Arg) (i : Arg) (env : List AV) (H : Heap) : Option (AV × Heap) :=
  match intOf (i.xv env), x.xv env with
    | some i, .agg cs => if 0 ≤ i ∧ i < len ∧ i.toNat * sz + sz ≤ cs.length then some (if agg then .agg ((cs.drop (i.toNat * sz)).take sz) else cs.getD (i.toNat * sz) .undef, H) else none
    | _, _ => none
def b_cutS (x : Arg) (lo : Option Arg) (hi : Option Arg) (env : List AV) (H : Heap) : Option (AV × Heap) :=
  match x.xv env with
    | .d (.str s) => match bounds (lo.map (·.xv env)) 0, bounds (hi.map (·.xv env)) s.size with
      | some l, some h => if l ≤ h ∧ h ≤ s.size then some (.d (.str (s.extract l h)), H) else none
      | _, _ => none
    | _ => none
def b_cut (sz : Nat) (x : Arg) (lo : Option Arg) (hi : Option Arg) (env : List AV) (H : Heap) : Option (AV × Heap) :=
  match fz (x.xv env) H with
    | some (.sl xs, H') => match bounds (lo.map (·.xv env)) 0, bounds (hi.map (·.xv env)) xs.length with
      | some l, some h => if l ≤ h ∧ h ≤ xs.length ∧ headOK sz xs = true then some (.d (.sl ((xs.drop l).take (h - l))), H') else none
      | _, _ => none
    | _ => none
def b_cutD (sz : Nat) (x : Arg) (lo : Option Arg) (hi : Option Arg) (env : List AV) (H : Heap) : Option (AV × Heap) :=
  match (x.xv env) with
    | .d y => match y.norm with
      | .sl xs => match bounds (lo.map (·.xv env)) 0, bounds (hi.map (·.xv env)) xs.length with
        | some l, some h => if l ≤ h ∧ h ≤ xs.length ∧ headOK sz xs = true then some (.d (.sl ((xs.drop l).take (h - l))), H) else none
        | _, _ => none
      | _ => none
    | _ => none
def b_pop (x : Arg) (hi : Arg) (env : List AV) (H : Heap) : Option (AV × Heap) :=
  match x.xv env with
    | .row b g => match H[b]?, intOf (hi.xv env) with
      | some (.row ty sz el g' p), some h => if g = g' ∧ 0 ≤ h ∧ h ≤ el.length ∧ (p : Int) ≤ h then some (.row b (g + 1), H.set b (.row ty sz (el.take h.toNat) (g' + 1) p)) else none
      | _, _ => none
    | .d .nil => match intOf (hi.xv env) with
      | some 0 => some (.d .nil, H)
      | _ => none
    | _ => none
def b_look (n : Nat) (zero : FV) (m : Arg) (k : Arg) (env : List AV) (H : Heap) : Option (AV × Heap) :=
  match m.xv env, keyAV (k.xv env) with
    | .map b, some k => if k.length = n then match H[b]? with
      | some (.map _ es) => match mapFind k es with
        | some r => some (.d (r.getD zero), H)
        | none => none
      | _ => none else none
    | _, _ => none
def b_upd (n : Nat) (m : Arg) (k : Arg) (v : Arg) (env : List AV) (H : Heap) : Option (AV × Heap) :=
  match m.xv env, keyAV (k.xv env), toFV (v.xv env) with
    | .map b, some k, some v => if k.length = n then match H[b]? with
      | some (.map ty es) => match mapSet k v es with
        | some es' => some (.undef, H.set b (.map ty es'))
        | none => none
      | _ => none else none
    | _, _, _ => none
def b_len (x : Arg) (env : List AV) (H : Heap) : Option (AV × Heap) :=
  match lenOf (x.xv env) H with
    | some n => some (.d (.int .i64 n), H)
    | none => none
def b_lenS (x : Arg) (env : List AV) (H : Heap) : Option (AV × Heap) :=
  match x.xv env with
    | .d (.str s) => some (.d (.int .i64 s.size), H)
    | _ => none
def b_lenM (x : Arg) (env : List AV) (H : Heap) : Option (AV × Heap) :=
  match x.xv env with
    | .map b => match H[b]? with
      | some (.map _ es) => some (.d (.int .i64 es.length), H)
      | _ => none
    | _ => none
def b_lenA (n : Nat) (env : List AV) (H : Heap) : Option (AV × Heap) :=
  some (.d (.int .i64 n), H)
def b_cap0 (x : Arg) (env : List AV) (H : Heap) : Option (AV × Heap) :=
  match x.xv env with
    | .d .nil => some (.d (.int .i64 0), H)
    | _ => none
def b_app (ty : Nat) (sz : Nat) (bytes : Nat) (s : Arg) (x : Arg) (env : List AV) (H : Heap) : Option (AV × Heap) :=
  match elems (x.xv env) H with
    | some xs => if xs.all (fun e => e.length == sz) then match s.xv env with
      | .d .nil => if xs.length * bytes ≤ maxBytes then some (.row H.length 0, H ++ [.row ty sz xs 0 0]) else none
      | .d .emp => if xs.length * bytes ≤ maxBytes then (if xs.isEmpty then some (.d .emp, H) else some (.row H.length 0, H ++ [.row ty sz xs 0 0])) else none
      | .row b g => match H[b]? with
        | some (.row ty' sz' el g' p) => if g = g' ∧ ty = ty' ∧ sz = sz' ∧ (el.length + xs.length) * bytes ≤ maxBytes then some (.row b (g + 1), H.set b (.row ty sz (el ++ xs) (g' + 1) p)) else none
        | _ => none
      | _ => none else none
    | none => none
def b_appN (ty : Nat) (bytes : Nat) (s : Arg) (x : Arg) (env : List AV) (H : Heap) : Option (AV × Heap) :=
  match nested (x.xv env) H with
    | some xs => match s.xv env with
      | .d .nil => if xs.length * bytes ≤ maxBytes ∧ xs.all one = true then some (.row H.length 0, H ++ [.rows ty xs 0 0]) else none
      | .row b g => match H[b]? with
        | some (.rows ty' el g' p) => if g = g' ∧ ty = ty' ∧ (el.length + xs.length) * bytes ≤ maxBytes ∧ xs.all one = true then some (.row b (g + 1), H.set b (.rows ty (el ++ xs) (g' + 1) p)) else none
        | _ => none
      | _ => none
    | none => none
def b_mn (x : Arg) (y : Arg) (env : List AV) (H : Heap) : Option (AV × Heap) :=
  match x.xv env, y.xv env with
    | .d (.int k a), .d (.int _ b) => some (.d (.int k (if b < a then b else a)), H)
    | _, _ => none
def b_mx (x : Arg) (y : Arg) (env : List AV) (H : Heap) : Option (AV × Heap) :=
  match x.xv env, y.xv env with
    | .d (.int k a), .d (.int _ b) => some (.d (.int k (if b > a then b else a)), H)
    | _, _ => none
def b_ext (t : Arg) (i : Nat) (env : List AV) (H : Heap) : Option (AV × Heap) :=
  match t.xv env with
    | .tup vs => (vs[i]?).map (·, H)
    | _ => none
def b_tassert (t : Nat) (agg : Bool) (zero : List FV) (x : Arg) (env : List AV) (H : Heap) : Option (AV × Heap) :=
  match x.xv env with
    | .iface t' v => some (if t' = t then .tup [v, .d (.bool true)] else .tup [if agg then .agg (zero.map .d) else .d (zero.getD 0 .nil), .d (.bool false)], H)
    | .d .nilIface => some (.tup [if agg then .agg (zero.map .d) else .d (zero.getD 0 .nil), .d (.bool false)], H)
    | _ => none
def b_mn3 (x : Arg) (y : Arg) (z : Arg) (env : List AV) (H : Heap) : Option (AV × Heap) :=
  match x.xv env, y.xv env, z.xv env with
    | .d (.int k a), .d (.int _ b), .d (.int _ c) => some (.d (.int k (if c < (if b < a then b else a) then c else if b < a then b else a)), H)
    | _, _, _ => none
def b_app0 (ty : Nat) (sz : Nat) (bytes : Nat) (zero : List FV) (s : Arg) (n : Arg) (env : List AV) (H : Heap) : Option (AV × Heap) :=
  match intOf (n.xv env) with
    | some n => if 0 ≤ n ∧ n * bytes ≤ maxBytes then match s.xv env with
      | .d .nil => some (.row H.length 0, H ++ [.row ty sz (List.replicate n.toNat zero) 0 0])
      | _ => none else none
    | none => none
def b_cpy (ty : Nat) (sz : Nat) (d : Arg) (s : Arg) (env : List AV) (H : Heap) : Option (AV × Heap) :=
  match dstWin (d.xv env) H, elems (s.xv env) H with
    | some (b, lo, n), some xs => match H[b]? with
      | some (.row ty' sz' el g' p) => if ty = ty' ∧ sz = sz' ∧ p ≤ lo ∧ xs.all (fun e => e.length == sz) = true then some (.d (.int .i64 (min xs.length n : Nat)), H.set b (.row ty sz (putAt el lo (xs.take n)) g' p)) else none
      | _ => none
    | _, _ => none
def b_galloc (ty : Nat) (n : Nat) (env : List AV) (H : Heap) : Option (AV × Heap) :=
  some (.undef, H)
def b_winS (sz : Nat) (x : Arg) (lo : Option Arg) (hi : Option Arg) (env : List AV) (H : Heap) : Option (AV × Heap) :=
  match x.xv env with
    | .row b g => match H[b]? with
      | some (.row _ sz' el g' _) => match bounds (lo.map (·.xv env)) 0, bounds (hi.map (·.xv env)) el.length with
        | some l, some h => if g = g' ∧ sz = sz' ∧ l ≤ h ∧ h ≤ el.length then some (.win b g l (h - l), H) else none
        | _, _ => none
      | _ => none
    | _ => none
def b_clr (ty : Nat) (sz : Nat) (zero : List FV) (x : Arg) (env : List AV) (H : Heap) : Option (AV × Heap) :=
  match dstWin (x.xv env) H with
    | some (b, lo, n) => match H[b]? with
      | some (.row ty' sz' el g' p) => if ty = ty' ∧ sz = sz' ∧ p ≤ lo ∧ zero.length = sz then some (.tup [], H.set b (.row ty sz (putAt el lo (List.replicate n zero)) g' p)) else none
      | _ => none
    | _ => none
def b_gstore (ty : Nat) (n : Nat) (t : Nat) (x : Arg) (env : List AV) (H : Heap) : Option (AV × Heap) :=
  if (x.xv env).cells.length = n ∧ (x.xv env).cells.all one = true then some (.bptr H.length 0, H ++ [.box ty (x.xv env).cells]) else none
def kix (k : IntKind) : Nat := @IntKind.rec (fun _ => Nat) 0 1 2 3 4 5 6 7 k
theorem kix_inj {k k' : IntKind} (h : kix k = kix k') : k = k' := by
  cases k <;> cases k' <;> first | rfl | (exact absurd h (by decide))
/-- two numbers of one kind -/
def two (x y : AV) (d : Option AV) (f : IntKind → Int → Int → Option AV) : Option AV := match x, y with
  | .d (.int k a), .d (.int k' b) => @Bool.rec (fun _ => Option AV) d (f k a b) (Nat.beq (kix k) (kix k'))
  | _, _ => d
theorem two_bin {x y : AV} {o : BinOp} {f : IntKind → Int → Int → Option AV} (h : ∀ k a b, f k a b = bin o (.d (.int k a)) (.d (.int k b))) : two x y (bin o x y) f = bin o x y := by
  unfold two
  split
  · rename_i k a k' b
    cases hb : Nat.beq (kix k) (kix k') with
    | false => rfl
    | true =>
      have := kix_inj (Nat.eq_of_beq_eq_true hb)
      subst this
      exact h _ _ _
  · rfl
def binN (o : BinOp) : AV → AV → Option AV := @BinOp.rec (fun _ => AV → AV → Option AV)
  (fun x y => two x y (bin .add x y) fun k a b => some (.d (.int k (k.wrap (a + b)))))
  (fun x y => two x y (bin .sub x y) fun k a b => some (.d (.int k (k.wrap (a - b)))))
  (fun x y => bin .mul x y)
  (fun x y => bin .quo x y)
  (fun x y => bin .rem x y)
  (fun x y => bin .and x y)
  (fun x y => bin .or x y)
  (fun x y => bin .xor x y)
  (fun x y => bin .shl x y)
  (fun x y => bin .shr x y)
  (fun x y => bin .andNot x y)
  (fun x y => two x y (bin .eql x y) fun k a b => some (.d (.bool (a == b))))
  (fun x y => two x y (bin .neq x y) fun k a b => some (.d (.bool (a != b))))
  (fun x y => two x y (bin .lss x y) fun k a b => some (.d (.bool (a < b))))
  (fun x y => two x y (bin .leq x y) fun k a b => some (.d (.bool (a ≤ b))))
  (fun x y => two x y (bin .gtr x y) fun k a b => some (.d (.bool (a > b))))
  (fun x y => two x y (bin .geq x y) fun k a b => some (.d (.bool (a ≥ b)))) o
theorem binN_eq (o : BinOp) (x y : AV) : binN o x y = bin o x y := by
  cases o <;> first | rfl | (refine two_bin (fun k a b => ?_); simp [bin, binF])
def b_binX (o : BinOp) (x : Arg) (y : Arg) (env : List AV) (H : Heap) : Option (AV × Heap) :=
  @Option.rec AV (fun _ => R2) none (fun v => some (v, H)) (binN o (x.xv env) (y.xv env))
theorem b_binX_eq (o : BinOp) (x y : Arg) (env : List AV) (H : Heap) : b_binX o x y env H = evOp (.bin o x y) env H := by
  unfold b_binX
  rw [binN_eq, xv_eq, xv_eq]
  simp only [evOp]
  cases bin o (x.ev env) (y.ev env) <;> rfl

def liftR (r : R2) : RR := @Option.rec (AV × Heap) (fun _ => RR) none (fun p => @Prod.rec AV Heap (fun _ => RR) (fun v H => some (.ret v, H)) p) r
theorem liftR_eq (r : R2) : liftR r = r.map fun (v, H) => (.ret v, H) := by cases r <;> rfl

def opO (o : AOp) : List AV → Heap → R2 := @AOp.rec (fun _ => List AV → Heap → R2)
  b_mv
  b_frz
  b_nilRow
  b_pick
  b_alloc
  b_box
  b_build
  b_litF
  b_lit
  b_lits
  b_load
  b_store
  b_chk
  b_binX
  b_eqA
  b_eqB
  b_un
  b_conv
  b_i2f
  b_b2s
  b_fbits
  b_fof
  b_iface
  b_mkf
  b_mkmap
  b_mksl
  b_mkrows
  b_fld
  b_part
  b_ixa
  b_ixp
  b_ixs
  b_ixv
  b_cutS
  b_cut
  b_cutD
  b_pop
  b_look
  b_upd
  b_len
  b_lenS
  b_lenM
  b_lenA
  b_cap0
  b_app
  b_appN
  b_mn
  b_mx
  (fun _ _ _ _ => none)
  (fun _ _ _ _ => none)
  b_ext
  (fun _ _ _ => none)
  b_tassert
  b_mn3
  b_app0
  b_cpy
  b_galloc
  b_winS
  b_clr
  b_gstore o
theorem b_mv_eq (p0 : Arg) (env : List AV) (H : Heap) : b_mv p0 env H = evOp (.mv p0) env H := by first | rfl | (simp only [b_mv, xv_eq]; rfl) | (simp only [b_mv, xv_eq, evOp])
theorem b_frz_eq (p0 : Arg) (env : List AV) (H : Heap) : b_frz p0 env H = evOp (.frz p0) env H := by first | rfl | (simp only [b_frz, xv_eq]; rfl) | (simp only [b_frz, xv_eq, evOp])
theorem b_nilRow_eq (p0 : Nat) (p1 : Nat) (env : List AV) (H : Heap) : b_nilRow p0 p1 env H = evOp (.nilRow p0 p1) env H := by first | rfl | (simp only [b_nilRow, xv_eq]; rfl) | (simp only [b_nilRow, xv_eq, evOp])
theorem b_pick_eq (p0 : Arg) (p1 : Arg) (p2 : Arg) (env : List AV) (H : Heap) : b_pick p0 p1 p2 env H = evOp (.pick p0 p1 p2) env H := by first | rfl | (simp only [b_pick, xv_eq]; rfl) | (simp only [b_pick, xv_eq, evOp])
theorem b_alloc_eq (p0 : Nat) (p1 : List Ini) (env : List AV) (H : Heap) : b_alloc p0 p1 env H = evOp (.alloc p0 p1) env H := by first | rfl | (simp only [b_alloc, xv_eq]; rfl) | (simp only [b_alloc, xv_eq, evOp])
theorem b_box_eq (p0 : Nat) (p1 : Arg) (env : List AV) (H : Heap) : b_box p0 p1 env H = evOp (.box p0 p1) env H := by first | rfl | (simp only [b_box, xv_eq]; rfl) | (simp only [b_box, xv_eq, evOp])
theorem b_build_eq (p0 : List FV) (p1 : List (Nat × Nat × Arg)) (env : List AV) (H : Heap) : b_build p0 p1 env H = evOp (.build p0 p1) env H := by first | rfl | (simp only [b_build, xv_eq]; rfl) | (simp only [b_build, xv_eq, evOp])
theorem b_litF_eq (p0 : Nat) (p1 : Nat) (p2 : Nat) (p3 : List FV) (p4 : List (Nat × Arg)) (env : List AV) (H : Heap) : b_litF p0 p1 p2 p3 p4 env H = evOp (.litF p0 p1 p2 p3 p4) env H := by first | rfl | (simp only [b_litF, xv_eq]; rfl) | (simp only [b_litF, xv_eq, evOp])
theorem b_lit_eq (p0 : Nat) (p1 : Nat) (p2 : Nat) (p3 : List FV) (p4 : List (Nat × Arg)) (env : List AV) (H : Heap) : b_lit p0 p1 p2 p3 p4 env H = evOp (.lit p0 p1 p2 p3 p4) env H := by first | rfl | (simp only [b_lit, xv_eq]; rfl) | (simp only [b_lit, xv_eq, evOp])
theorem b_lits_eq (p0 : Nat) (p1 : Nat) (p2 : List (Nat × Arg)) (env : List AV) (H : Heap) : b_lits p0 p1 p2 env H = evOp (.lits p0 p1 p2) env H := by first | rfl | (simp only [b_lits, xv_eq]; rfl) | (simp only [b_lits, xv_eq, evOp])
theorem b_load_eq (p0 : Nat) (p1 : Bool) (p2 : Arg) (env : List AV) (H : Heap) : b_load p0 p1 p2 env H = evOp (.load p0 p1 p2) env H := by first | rfl | (simp only [b_load, xv_eq]; rfl) | (simp only [b_load, xv_eq, evOp])
theorem b_store_eq (p0 : Nat) (p1 : Arg) (p2 : Arg) (env : List AV) (H : Heap) : b_store p0 p1 p2 env H = evOp (.store p0 p1 p2) env H := by first | rfl | (simp only [b_store, xv_eq]; rfl) | (simp only [b_store, xv_eq, evOp])
theorem b_chk_eq (p0 : Arg) (env : List AV) (H : Heap) : b_chk p0 env H = evOp (.chk p0) env H := by first | rfl | (simp only [b_chk, xv_eq]; rfl) | (simp only [b_chk, xv_eq, evOp])
theorem b_eqA_eq (p0 : Nat) (p1 : Bool) (p2 : Arg) (p3 : Arg) (env : List AV) (H : Heap) : b_eqA p0 p1 p2 p3 env H = evOp (.eqA p0 p1 p2 p3) env H := by first | rfl | (simp only [b_eqA, xv_eq]; rfl) | (simp only [b_eqA, xv_eq, evOp])
theorem b_eqB_eq (p0 : Bool) (p1 : Arg) (p2 : Arg) (env : List AV) (H : Heap) : b_eqB p0 p1 p2 env H = evOp (.eqB p0 p1 p2) env H := by first | rfl | (simp only [b_eqB, xv_eq]; rfl) | (simp only [b_eqB, xv_eq, evOp])
theorem b_un_eq (p0 : UnOp) (p1 : Arg) (env : List AV) (H : Heap) : b_un p0 p1 env H = evOp (.un p0 p1) env H := by first | rfl | (simp only [b_un, xv_eq]; rfl) | (simp only [b_un, xv_eq, evOp])
theorem b_conv_eq (p0 : IntKind) (p1 : Arg) (env : List AV) (H : Heap) : b_conv p0 p1 env H = evOp (.conv p0 p1) env H := by first | rfl | (simp only [b_conv, xv_eq]; rfl) | (simp only [b_conv, xv_eq, evOp])
theorem b_i2f_eq (p0 : FloatKind) (p1 : Arg) (env : List AV) (H : Heap) : b_i2f p0 p1 env H = evOp (.i2f p0 p1) env H := by first | rfl | (simp only [b_i2f, xv_eq]; rfl) | (simp only [b_i2f, xv_eq, evOp])
theorem b_b2s_eq (p0 : Arg) (env : List AV) (H : Heap) : b_b2s p0 env H = evOp (.b2s p0) env H := by first | rfl | (simp only [b_b2s, xv_eq]; rfl) | (simp only [b_b2s, xv_eq, evOp])
theorem b_fbits_eq (p0 : Arg) (env : List AV) (H : Heap) : b_fbits p0 env H = evOp (.fbits p0) env H := by first | rfl | (simp only [b_fbits, xv_eq]; rfl) | (simp only [b_fbits, xv_eq, evOp])
theorem b_fof_eq (p0 : Arg) (env : List AV) (H : Heap) : b_fof p0 env H = evOp (.fof p0) env H := by first | rfl | (simp only [b_fof, xv_eq]; rfl) | (simp only [b_fof, xv_eq, evOp])
theorem b_iface_eq (p0 : Nat) (p1 : Arg) (env : List AV) (H : Heap) : b_iface p0 p1 env H = evOp (.iface p0 p1) env H := by first | rfl | (simp only [b_iface, xv_eq]; rfl) | (simp only [b_iface, xv_eq, evOp])
theorem b_mkf_eq (p0 : Nat) (p1 : List Arg) (env : List AV) (H : Heap) : b_mkf p0 p1 env H = evOp (.mkf p0 p1) env H := by first | rfl | (simp only [b_mkf, xv_eq]; rfl) | (simp only [b_mkf, xv_eq, evOp])
theorem b_mkmap_eq (p0 : Nat) (env : List AV) (H : Heap) : b_mkmap p0 env H = evOp (.mkmap p0) env H := by first | rfl | (simp only [b_mkmap, xv_eq]; rfl) | (simp only [b_mkmap, xv_eq, evOp])
theorem b_mksl_eq (p0 : Nat) (p1 : Nat) (p2 : Nat) (p3 : List FV) (p4 : Arg) (p5 : Arg) (env : List AV) (H : Heap) : b_mksl p0 p1 p2 p3 p4 p5 env H = evOp (.mksl p0 p1 p2 p3 p4 p5) env H := by first | rfl | (simp only [b_mksl, xv_eq]; rfl) | (simp only [b_mksl, xv_eq, evOp])
theorem b_mkrows_eq (p0 : Nat) (p1 : Nat) (p2 : Arg) (p3 : Arg) (env : List AV) (H : Heap) : b_mkrows p0 p1 p2 p3 env H = evOp (.mkrows p0 p1 p2 p3) env H := by first | rfl | (simp only [b_mkrows, xv_eq]; rfl) | (simp only [b_mkrows, xv_eq, evOp])
theorem b_fld_eq (p0 : Nat) (p1 : Arg) (env : List AV) (H : Heap) : b_fld p0 p1 env H = evOp (.fld p0 p1) env H := by first | rfl | (simp only [b_fld, xv_eq]; rfl) | (simp only [b_fld, xv_eq, evOp])
theorem b_part_eq (p0 : Nat) (p1 : Nat) (p2 : Bool) (p3 : Arg) (env : List AV) (H : Heap) : b_part p0 p1 p2 p3 env H = evOp (.part p0 p1 p2 p3) env H := by first | rfl | (simp only [b_part, xv_eq]; rfl) | (simp only [b_part, xv_eq, evOp])
theorem b_ixa_eq (p0 : Nat) (p1 : Arg) (p2 : Arg) (env : List AV) (H : Heap) : b_ixa p0 p1 p2 env H = evOp (.ixa p0 p1 p2) env H := by first | rfl | (simp only [b_ixa, xv_eq]; rfl) | (simp only [b_ixa, xv_eq, evOp])
theorem b_ixp_eq (p0 : Nat) (p1 : Nat) (p2 : Arg) (p3 : Arg) (env : List AV) (H : Heap) : b_ixp p0 p1 p2 p3 env H = evOp (.ixp p0 p1 p2 p3) env H := by first | rfl | (simp only [b_ixp, xv_eq]; rfl) | (simp only [b_ixp, xv_eq, evOp])
theorem b_ixs_eq (p0 : Arg) (p1 : Arg) (env : List AV) (H : Heap) : b_ixs p0 p1 env H = evOp (.ixs p0 p1) env H := by first | rfl | (simp only [b_ixs, xv_eq]; rfl) | (simp only [b_ixs, xv_eq, evOp])
theorem b_ixv_eq (p0 : Nat) (p1 : Nat) (p2 : Bool) (p3 : Arg) (p4 : Arg) (env : List AV) (H : Heap) : b_ixv p0 p1 p2 p3 p4 env H = evOp (.ixv p0 p1 p2 p3 p4) env H := by first | rfl | (simp only [b_ixv, xv_eq]; rfl) | (simp only [b_ixv, xv_eq, evOp])
theorem b_cutS_eq (p0 : Arg) (p1 : Option Arg) (p2 : Option Arg) (env : List AV) (H : Heap) : b_cutS p0 p1 p2 env H = evOp (.cutS p0 p1 p2) env H := by first | rfl | (simp only [b_cutS, xv_eq]; rfl) | (simp only [b_cutS, xv_eq, evOp])
theorem b_cut_eq (p0 : Nat) (p1 : Arg) (p2 : Option Arg) (p3 : Option Arg) (env : List AV) (H : Heap) : b_cut p0 p1 p2 p3 env H = evOp (.cut p0 p1 p2 p3) env H := by first | rfl | (simp only [b_cut, xv_eq]; rfl) | (simp only [b_cut, xv_eq, evOp])
theorem b_cutD_eq (p0 : Nat) (p1 : Arg) (p2 : Option Arg) (p3 : Option Arg) (env : List AV) (H : Heap) : b_cutD p0 p1 p2 p3 env H = evOp (.cutD p0 p1 p2 p3) env H := by first | rfl | (simp only [b_cutD, xv_eq]; rfl) | (simp only [b_cutD, xv_eq, evOp])
theorem b_pop_eq (p0 : Arg) (p1 : Arg) (env : List AV) (H : Heap) : b_pop p0 p1 env H = evOp (.pop p0 p1) env H := by first | rfl | (simp only [b_pop, xv_eq]; rfl) | (simp only [b_pop, xv_eq, evOp])
theorem b_look_eq (p0 : Nat) (p1 : FV) (p2 : Arg) (p3 : Arg) (env : List AV) (H : Heap) : b_look p0 p1 p2 p3 env H = evOp (.look p0 p1 p2 p3) env H := by first | rfl | (simp only [b_look, xv_eq]; rfl) | (simp only [b_look, xv_eq, evOp])
theorem b_upd_eq (p0 : Nat) (p1 : Arg) (p2 : Arg) (p3 : Arg) (env : List AV) (H : Heap) : b_upd p0 p1 p2 p3 env H = evOp (.upd p0 p1 p2 p3) env H := by first | rfl | (simp only [b_upd, xv_eq]; rfl) | (simp only [b_upd, xv_eq, evOp])
theorem b_len_eq (p0 : Arg) (env : List AV) (H : Heap) : b_len p0 env H = evOp (.len p0) env H := by first | rfl | (simp only [b_len, xv_eq]; rfl) | (simp only [b_len, xv_eq, evOp])
theorem b_lenS_eq (p0 : Arg) (env : List AV) (H : Heap) : b_lenS p0 env H = evOp (.lenS p0) env H := by first | rfl | (simp only [b_lenS, xv_eq]; rfl) | (simp only [b_lenS, xv_eq, evOp])
theorem b_lenM_eq (p0 : Arg) (env : List AV) (H : Heap) : b_lenM p0 env H = evOp (.lenM p0) env H := by first | rfl | (simp only [b_lenM, xv_eq]; rfl) | (simp only [b_lenM, xv_eq, evOp])
theorem b_lenA_eq (p0 : Nat) (env : List AV) (H : Heap) : b_lenA p0 env H = evOp (.lenA p0) env H := by first | rfl | (simp only [b_lenA, xv_eq]; rfl) | (simp only [b_lenA, xv_eq, evOp])
theorem b_cap0_eq (p0 : Arg) (env : List AV) (H : Heap) : b_cap0 p0 env H = evOp (.cap0 p0) env H := by first | rfl | (simp only [b_cap0, xv_eq]; rfl) | (simp only [b_cap0, xv_eq, evOp])
theorem b_app_eq (p0 : Nat) (p1 : Nat) (p2 : Nat) (p3 : Arg) (p4 : Arg) (env : List AV) (H : Heap) : b_app p0 p1 p2 p3 p4 env H = evOp (.app p0 p1 p2 p3 p4) env H := by first | rfl | (simp only [b_app, xv_eq]; rfl) | (simp only [b_app, xv_eq, evOp])
theorem b_appN_eq (p0 : Nat) (p1 : Nat) (p2 : Arg) (p3 : Arg) (env : List AV) (H : Heap) : b_appN p0 p1 p2 p3 env H = evOp (.appN p0 p1 p2 p3) env H := by first | rfl | (simp only [b_appN, xv_eq]; rfl) | (simp only [b_appN, xv_eq, evOp])
theorem b_mn_eq (p0 : Arg) (p1 : Arg) (env : List AV) (H : Heap) : b_mn p0 p1 env H = evOp (.mn p0 p1) env H := by first | rfl | (simp only [b_mn, xv_eq]; rfl) | (simp only [b_mn, xv_eq, evOp])
theorem b_mx_eq (p0 : Arg) (p1 : Arg) (env : List AV) (H : Heap) : b_mx p0 p1 env H = evOp (.mx p0 p1) env H := by first | rfl | (simp only [b_mx, xv_eq]; rfl) | (simp only [b_mx, xv_eq, evOp])
theorem b_ext_eq (p0 : Arg) (p1 : Nat) (env : List AV) (H : Heap) : b_ext p0 p1 env H = evOp (.ext p0 p1) env H := by first | rfl | (simp only [b_ext, xv_eq]; rfl) | (simp only [b_ext, xv_eq, evOp])
theorem b_tassert_eq (p0 : Nat) (p1 : Bool) (p2 : List FV) (p3 : Arg) (env : List AV) (H : Heap) : b_tassert p0 p1 p2 p3 env H = evOp (.tassert p0 p1 p2 p3) env H := by first | rfl | (simp only [b_tassert, xv_eq]; rfl) | (simp only [b_tassert, xv_eq, evOp])
theorem b_mn3_eq (p0 : Arg) (p1 : Arg) (p2 : Arg) (env : List AV) (H : Heap) : b_mn3 p0 p1 p2 env H = evOp (.mn3 p0 p1 p2) env H := by first | rfl | (simp only [b_mn3, xv_eq]; rfl) | (simp only [b_mn3, xv_eq, evOp])
theorem b_app0_eq (p0 : Nat) (p1 : Nat) (p2 : Nat) (p3 : List FV) (p4 : Arg) (p5 : Arg) (env : List AV) (H : Heap) : b_app0 p0 p1 p2 p3 p4 p5 env H = evOp (.app0 p0 p1 p2 p3 p4 p5) env H := by first | rfl | (simp only [b_app0, xv_eq]; rfl) | (simp only [b_app0, xv_eq, evOp])
theorem b_cpy_eq (p0 : Nat) (p1 : Nat) (p2 : Arg) (p3 : Arg) (env : List AV) (H : Heap) : b_cpy p0 p1 p2 p3 env H = evOp (.cpy p0 p1 p2 p3) env H := by first | rfl | (simp only [b_cpy, xv_eq]; rfl) | (simp only [b_cpy, xv_eq, evOp])
theorem b_galloc_eq (p0 : Nat) (p1 : Nat) (env : List AV) (H : Heap) : b_galloc p0 p1 env H = evOp (.galloc p0 p1) env H := by first | rfl | (simp only [b_galloc, xv_eq]; rfl) | (simp only [b_galloc, xv_eq, evOp])
theorem b_winS_eq (p0 : Nat) (p1 : Arg) (p2 : Option Arg) (p3 : Option Arg) (env : List AV) (H : Heap) : b_winS p0 p1 p2 p3 env H = evOp (.winS p0 p1 p2 p3) env H := by first | rfl | (simp only [b_winS, xv_eq]; rfl) | (simp only [b_winS, xv_eq, evOp])
theorem b_clr_eq (p0 : Nat) (p1 : Nat) (p2 : List FV) (p3 : Arg) (env : List AV) (H : Heap) : b_clr p0 p1 p2 p3 env H = evOp (.clr p0 p1 p2 p3) env H := by first | rfl | (simp only [b_clr, xv_eq]; rfl) | (simp only [b_clr, xv_eq, evOp])
theorem b_gstore_eq (p0 : Nat) (p1 : Nat) (p2 : Nat) (p3 : Arg) (env : List AV) (H : Heap) : b_gstore p0 p1 p2 p3 env H = evOp (.gstore p0 p1 p2 p3) env H := by first | rfl | (simp only [b_gstore, xv_eq]; rfl) | (simp only [b_gstore, xv_eq, evOp])
theorem opO_eq (o : AOp) (env : List AV) (H : Heap) : opO o env H = evOp o env H := by
  cases o
  · exact b_mv_eq ..
  · exact b_frz_eq ..
  · exact b_nilRow_eq ..
  · exact b_pick_eq ..
  · exact b_alloc_eq ..
  · exact b_box_eq ..
  · exact b_build_eq ..
  · exact b_litF_eq ..
  · exact b_lit_eq ..
  · exact b_lits_eq ..
  · exact b_load_eq ..
  · exact b_store_eq ..
  · exact b_chk_eq ..
  · exact b_binX_eq ..
  · exact b_eqA_eq ..
  · exact b_eqB_eq ..
  · exact b_un_eq ..
  · exact b_conv_eq ..
  · exact b_i2f_eq ..
  · exact b_b2s_eq ..
  · exact b_fbits_eq ..
  · exact b_fof_eq ..
  · exact b_iface_eq ..
  · exact b_mkf_eq ..
  · exact b_mkmap_eq ..
  · exact b_mksl_eq ..
  · exact b_mkrows_eq ..
  · exact b_fld_eq ..
  · exact b_part_eq ..
  · exact b_ixa_eq ..
  · exact b_ixp_eq ..
  · exact b_ixs_eq ..
  · exact b_ixv_eq ..
  · exact b_cutS_eq ..
  · exact b_cut_eq ..
  · exact b_cutD_eq ..
  · exact b_pop_eq ..
  · exact b_look_eq ..
  · exact b_upd_eq ..
  · exact b_len_eq ..
  · exact b_lenS_eq ..
  · exact b_lenM_eq ..
  · exact b_lenA_eq ..
  · exact b_cap0_eq ..
  · exact b_app_eq ..
  · exact b_appN_eq ..
  · exact b_mn_eq ..
  · exact b_mx_eq ..
  · rfl
  · rfl
  · exact b_ext_eq ..
  · rfl
  · exact b_tassert_eq ..
  · exact b_mn3_eq ..
  · exact b_app0_eq ..
  · exact b_cpy_eq ..
  · exact b_galloc_eq ..
  · exact b_winS_eq ..
  · exact b_clr_eq ..
  · exact b_gstore_eq ..
/-- a call that is given data only -/
def callX (C : Oracle) (raw : Bool) (f : Nat) (args : List AV) (H : Heap) : RR :=
  match (bif raw then some (args, H) else hands args H) with
  | none => none
  | some (args, H) => match idsL args with
    | [] => (match C f (renL (renOf H [] anew) args) [] with
      | none => none
      | some (r, []) => some (r.map (ren (backOf H [] [])), H)
      | some (r, k :: K) => some (r.map (ren (backOf H [] (k :: K))), backHeap H [] (k :: K)))
    | b :: l => let L := reach H (b :: l)
      match C f (renL (renOf H L anew) args) (rebase H L anew) with
      | none => none
      | some (r, K) => if still H L K then some (r.map (ren (backOf H L K)), backHeap H L K) else none
theorem backHeap_nil (H : Heap) : backHeap H [] [] = H := by
  have : ∀ (l : Heap) (n : Nat), (l.zipIdx n).map (fun p : Blk × Nat => p.1) = l := by
    intro l
    induction l with
    | nil => intro n; rfl
    | cons a r ih => intro n; simp only [List.zipIdx_cons, List.map_cons, ih]
  rw [backHeap_eq]
  have h2 : (fun p : Blk × Nat => overB H [] [] p.1 p.2) = fun p => p.1 := by funext p; rfl
  rw [h2]
  simp only [List.drop_nil, List.map_nil, List.append_nil]
  exact this H 0
theorem callX_eq (C : Oracle) (raw : Bool) (f : Nat) (args : List AV) (H : Heap) : callX C raw f args H = callOn C raw f args H := by
  unfold callX callOn
  have : (bif raw then some (args, H) else hands args H) = if raw then some (args, H) else hands args H := by cases raw <;> rfl
  rw [this]
  cases (if raw then some (args, H) else hands args H) with
  | none => rfl
  | some p =>
    obtain ⟨args, H⟩ := p
    dsimp only
    cases hi : idsL args with
    | nil =>
      dsimp only
      show _ = match C f (renL (renOf H [] anew) args) [] with
        | none => none
        | some (r, K) => if still H [] K = true then some (r.map (ren (backOf H [] K)), backHeap H [] K) else none
      cases C f (renL (renOf H [] anew) args) [] with
      | none => rfl
      | some q =>
        obtain ⟨r, K⟩ := q
        cases K with
        | nil => show some (r.map (ren (backOf H [] [])), H) = some (r.map (ren (backOf H [] [])), backHeap H [] [])
                 rw [backHeap_nil]
        | cons k K => rfl
    | cons b l => rfl
def b_callv (C : Ctx) (f : Arg) (l : List Arg) (env : List AV) (H : Heap) : RR := match f.xv env with
  | .func g caps => callX C.call (C.raw g) g (l.map (·.xv env) ++ caps) H
  | .d (.fn g) => callX C.call (C.raw g) g (l.map (·.xv env)) H
  | _ => none
theorem b_callv_eq (C : Ctx) (f : Arg) (l : List Arg) (env : List AV) (H : Heap) : b_callv C f l env H = evAny C (.callv f l) env H := by
  unfold b_callv
  simp only [callX_eq, xv_eq, evAny, evCall]
  cases f.ev env <;> first | rfl | skip
  rename_i v
  cases v <;> first | rfl | skip
  simp only [List.append_nil]
def b_panic (x : Arg) (env : List AV) (H : Heap) : RR := match x.xv env with
  | .iface t v => some (.pan (.iface t v), H)
  | _ => none
theorem b_panic_eq (C : Ctx) (x : Arg) (env : List AV) (H : Heap) : b_panic x env H = evAny C (.panic x) env H := by
  unfold b_panic
  rw [xv_eq]
  rfl
def anyX (C : Ctx) (o : AOp) : List AV → Heap → RR := @AOp.rec (fun _ => List AV → Heap → RR)
  (fun p0 env H => liftR (b_mv p0 env H))
  (fun p0 env H => liftR (b_frz p0 env H))
  (fun p0 p1 env H => liftR (b_nilRow p0 p1 env H))
  (fun p0 p1 p2 env H => liftR (b_pick p0 p1 p2 env H))
  (fun p0 p1 env H => liftR (b_alloc p0 p1 env H))
  (fun p0 p1 env H => liftR (b_box p0 p1 env H))
  (fun p0 p1 env H => liftR (b_build p0 p1 env H))
  (fun p0 p1 p2 p3 p4 env H => liftR (b_litF p0 p1 p2 p3 p4 env H))
  (fun p0 p1 p2 p3 p4 env H => liftR (b_lit p0 p1 p2 p3 p4 env H))
  (fun p0 p1 p2 env H => liftR (b_lits p0 p1 p2 env H))
  (fun p0 p1 p2 env H => liftR (b_load p0 p1 p2 env H))
  (fun p0 p1 p2 env H => liftR (b_store p0 p1 p2 env H))
  (fun p0 env H => liftR (b_chk p0 env H))
  (fun p0 p1 p2 env H => liftR (b_binX p0 p1 p2 env H))
  (fun p0 p1 p2 p3 env H => liftR (b_eqA p0 p1 p2 p3 env H))
  (fun p0 p1 p2 env H => liftR (b_eqB p0 p1 p2 env H))
  (fun p0 p1 env H => liftR (b_un p0 p1 env H))
  (fun p0 p1 env H => liftR (b_conv p0 p1 env H))
  (fun p0 p1 env H => liftR (b_i2f p0 p1 env H))
  (fun p0 env H => liftR (b_b2s p0 env H))
  (fun p0 env H => liftR (b_fbits p0 env H))
  (fun p0 env H => liftR (b_fof p0 env H))
  (fun p0 p1 env H => liftR (b_iface p0 p1 env H))
  (fun p0 p1 env H => liftR (b_mkf p0 p1 env H))
  (fun p0 env H => liftR (b_mkmap p0 env H))
  (fun p0 p1 p2 p3 p4 p5 env H => liftR (b_mksl p0 p1 p2 p3 p4 p5 env H))
  (fun p0 p1 p2 p3 env H => liftR (b_mkrows p0 p1 p2 p3 env H))
  (fun p0 p1 env H => liftR (b_fld p0 p1 env H))
  (fun p0 p1 p2 p3 env H => liftR (b_part p0 p1 p2 p3 env H))
  (fun p0 p1 p2 env H => liftR (b_ixa p0 p1 p2 env H))
  (fun p0 p1 p2 p3 env H => liftR (b_ixp p0 p1 p2 p3 env H))
  (fun p0 p1 env H => liftR (b_ixs p0 p1 env H))
  (fun p0 p1 p2 p3 p4 env H => liftR (b_ixv p0 p1 p2 p3 p4 env H))
  (fun p0 p1 p2 env H => liftR (b_cutS p0 p1 p2 env H))
  (fun p0 p1 p2 p3 env H => liftR (b_cut p0 p1 p2 p3 env H))
  (fun p0 p1 p2 p3 env H => liftR (b_cutD p0 p1 p2 p3 env H))
  (fun p0 p1 env H => liftR (b_pop p0 p1 env H))
  (fun p0 p1 p2 p3 env H => liftR (b_look p0 p1 p2 p3 env H))
  (fun p0 p1 p2 p3 env H => liftR (b_upd p0 p1 p2 p3 env H))
  (fun p0 env H => liftR (b_len p0 env H))
  (fun p0 env H => liftR (b_lenS p0 env H))
  (fun p0 env H => liftR (b_lenM p0 env H))
  (fun p0 env H => liftR (b_lenA p0 env H))
  (fun p0 env H => liftR (b_cap0 p0 env H))
  (fun p0 p1 p2 p3 p4 env H => liftR (b_app p0 p1 p2 p3 p4 env H))
  (fun p0 p1 p2 p3 env H => liftR (b_appN p0 p1 p2 p3 env H))
  (fun p0 p1 env H => liftR (b_mn p0 p1 env H))
  (fun p0 p1 env H => liftR (b_mx p0 p1 env H))
  (fun f l env H => callX C.call (C.raw f) f (l.map (·.xv env)) H)
  (b_callv C)
  (fun p0 p1 env H => liftR (b_ext p0 p1 env H))
  b_panic
  (fun p0 p1 p2 p3 env H => liftR (b_tassert p0 p1 p2 p3 env H))
  (fun p0 p1 p2 env H => liftR (b_mn3 p0 p1 p2 env H))
  (fun p0 p1 p2 p3 p4 p5 env H => liftR (b_app0 p0 p1 p2 p3 p4 p5 env H))
  (fun p0 p1 p2 p3 env H => liftR (b_cpy p0 p1 p2 p3 env H))
  (fun p0 p1 env H => liftR (b_galloc p0 p1 env H))
  (fun p0 p1 p2 p3 env H => liftR (b_winS p0 p1 p2 p3 env H))
  (fun p0 p1 p2 p3 env H => liftR (b_clr p0 p1 p2 p3 env H))
  (fun p0 p1 p2 p3 env H => liftR (b_gstore p0 p1 p2 p3 env H)) o
theorem anyX_eq (C : Ctx) (o : AOp) (env : List AV) (H : Heap) : anyX C o env H = evAny C o env H := by
  have key : ∀ r : R2, r = evOp o env H → liftR r = (evOp o env H).map fun (v, H) => (.ret v, H) := fun r h => by rw [h, liftR_eq]
  cases o
  · exact key _ (b_mv_eq ..)
  · exact key _ (b_frz_eq ..)
  · exact key _ (b_nilRow_eq ..)
  · exact key _ (b_pick_eq ..)
  · exact key _ (b_alloc_eq ..)
  · exact key _ (b_box_eq ..)
  · exact key _ (b_build_eq ..)
  · exact key _ (b_litF_eq ..)
  · exact key _ (b_lit_eq ..)
  · exact key _ (b_lits_eq ..)
  · exact key _ (b_load_eq ..)
  · exact key _ (b_store_eq ..)
  · exact key _ (b_chk_eq ..)
  · exact key _ (b_binX_eq ..)
  · exact key _ (b_eqA_eq ..)
  · exact key _ (b_eqB_eq ..)
  · exact key _ (b_un_eq ..)
  · exact key _ (b_conv_eq ..)
  · exact key _ (b_i2f_eq ..)
  · exact key _ (b_b2s_eq ..)
  · exact key _ (b_fbits_eq ..)
  · exact key _ (b_fof_eq ..)
  · exact key _ (b_iface_eq ..)
  · exact key _ (b_mkf_eq ..)
  · exact key _ (b_mkmap_eq ..)
  · exact key _ (b_mksl_eq ..)
  · exact key _ (b_mkrows_eq ..)
  · exact key _ (b_fld_eq ..)
  · exact key _ (b_part_eq ..)
  · exact key _ (b_ixa_eq ..)
  · exact key _ (b_ixp_eq ..)
  · exact key _ (b_ixs_eq ..)
  · exact key _ (b_ixv_eq ..)
  · exact key _ (b_cutS_eq ..)
  · exact key _ (b_cut_eq ..)
  · exact key _ (b_cutD_eq ..)
  · exact key _ (b_pop_eq ..)
  · exact key _ (b_look_eq ..)
  · exact key _ (b_upd_eq ..)
  · exact key _ (b_len_eq ..)
  · exact key _ (b_lenS_eq ..)
  · exact key _ (b_lenM_eq ..)
  · exact key _ (b_lenA_eq ..)
  · exact key _ (b_cap0_eq ..)
  · exact key _ (b_app_eq ..)
  · exact key _ (b_appN_eq ..)
  · exact key _ (b_mn_eq ..)
  · exact key _ (b_mx_eq ..)
  · rename_i f l
    show callX _ _ _ _ _ = callOn _ _ _ (l.map (·.ev env) ++ []) _
    simp only [callX_eq, xv_eq, List.append_nil]
  · exact b_callv_eq ..
  · exact key _ (b_ext_eq ..)
  · exact b_panic_eq ..
  · exact key _ (b_tassert_eq ..)
  · exact key _ (b_mn3_eq ..)
  · exact key _ (b_app0_eq ..)
  · exact key _ (b_cpy_eq ..)
  · exact key _ (b_galloc_eq ..)
  · exact key _ (b_winS_eq ..)
  · exact key _ (b_clr_eq ..)
  · exact key _ (b_gstore_eq ..)
/-! ### code -/
def retX (k : AV → Heap → R3) (kp : AV → Heap → R3) (r : RR) : R3 := @Option.rec (Res × Heap) (fun _ => R3) none (fun p => @Prod.rec Res Heap (fun _ => R3) (fun r H => @Res.rec (fun _ => R3) (fun v => k v H) (fun v => kp v H) r) p) r
def putX (d : Option Nat) (v : AV) (env : List AV) : List AV := @Option.rec Nat (fun _ => List AV) env (fun d => setX d v env) d
theorem putX_eq (d : Option Nat) (v : AV) (env : List AV) : putX d v env = put env d v := by cases d <;> first | rfl | exact setX_eq ..
def wantX (g : Nat × Bool) (env : List AV) : Option Bool := match getX g.1 env with
  | .d (.bool c) => some (c == g.2)
  | .tup [] => some false
  | _ => none
def stepX (C : Ctx) (o : AO) (ih : List AV → Heap → R3) : List AV → Heap → R3 :=
  @AO.rec (fun _ => List AV → Heap → R3) (fun dst op guard _ => @Option.rec (Nat × Bool) (fun _ => List AV → Heap → R3)
    (fun env H => retX (fun v H => ih (putX dst v env) H) (fun v H => some (.panic v, env, H)) (anyX C op env H))
    (fun g env H => match wantX g env with
      | some true => retX (fun v H => ih (putX dst v env) H) (fun v H => some (.panic v, env, H)) (anyX C op env H)
      | some false => ih (putX dst (.tup []) env) H
      | none => none) guard) o
def opsX (C : Ctx) (l : List AO) : List AV → Heap → R3 := @List.rec AO (fun _ => List AV → Heap → R3) (fun env H => some (.normal, env, H)) (fun o _ ih => stepX C o ih) l
theorem opsX_eq (C : Ctx) : ∀ (l : List AO), opsX C l = evOps C l
  | [] => rfl
  | o :: r => by
    have ih := opsX_eq C r
    funext env H
    show stepX C o (opsX C r) env H = _
    rw [ih]
    obtain ⟨dst, op, guard, anc⟩ := o
    have key : ∀ x : RR, retX (fun v H => evOps C r (putX dst v env) H) (fun v H => some (.panic v, env, H)) x = match x with
        | some (.ret v, H') => evOps C r (put env dst v) H'
        | some (.pan v, H') => some (.panic v, env, H')
        | none => none := by
      intro x
      rcases x with _ | ⟨q, H'⟩
      · rfl
      · cases q with
        | ret v => show evOps C r (putX dst v env) H' = _; rw [putX_eq]
        | pan v => rfl
    cases guard with
    | none =>
      show retX (fun v H => evOps C r (putX dst v env) H) (fun v H => some (.panic v, env, H)) (anyX C op env H) = _
      rw [key, anyX_eq]
      rfl
    | some g =>
      show (match wantX g env with
        | some true => retX (fun v H => evOps C r (putX dst v env) H) (fun v H => some (.panic v, env, H)) (anyX C op env H)
        | some false => evOps C r (putX dst (.tup []) env) H
        | none => none) = _
      have hw : wantX g env = wanted ⟨dst, op, some g, anc⟩ env := by unfold wantX wanted; rw [getX_eq]; rfl
      rw [hw, evOps]
      cases wanted ⟨dst, op, some g, anc⟩ env with
      | none => rfl
      | some b => cases b with
        | true => dsimp only; rw [key, anyX_eq]; rfl
        | false => dsimp only; rw [putX_eq]
def onX (r : R3) (kn : List AV → Heap → R3) : R3 := @Option.rec (ExitA × List AV × Heap) (fun _ => R3) none (fun p => @Prod.rec ExitA (List AV × Heap) (fun _ => R3) (fun e q => @ExitA.rec (fun _ => R3) (@Prod.rec (List AV) Heap (fun _ => R3) (fun env H => kn env H) q) (fun _ => r) r (fun _ => r) e) p) r
theorem onX_eq (r : R3) (kn : List AV → Heap → R3) : onX r kn = match r with
    | some (.normal, env, H) => kn env H
    | r => r := by
  rcases r with _ | ⟨e, env, H⟩
  · rfl
  · cases e <;> rfl
def onE (id : Nat) (r : R3) : R3 := @Option.rec (ExitA × List AV × Heap) (fun _ => R3) none (fun p => @Prod.rec ExitA (List AV × Heap) (fun _ => R3) (fun e q => @ExitA.rec (fun _ => R3) r (fun id' => @Bool.rec (fun _ => R3) r (some (.normal, q)) (Nat.beq id' id)) r (fun _ => r) e) p) r
theorem onE_eq (id : Nat) (r : R3) : onE id r = match r with
    | some (.exit id', env, H) => if id' = id then some (.normal, env, H) else some (.exit id', env, H)
    | r => r := by
  rcases r with _ | ⟨e, env, H⟩
  · rfl
  · cases e with
    | exit id' =>
      show @Bool.rec (fun _ => R3) _ _ (Nat.beq id' id) = _
      by_cases h : id' = id
      · subst h; simp
      · have : Nat.beq id' id = false := by
          cases hb : Nat.beq id' id with
          | false => rfl
          | true => exact absurd (Nat.eq_of_beq_eq_true hb) h
        rw [this]; simp [h]
    | _ => rfl
def truth (v : AV) (a b : Unit → R3) : R3 := match v with
  | .d (.bool true) => a ()
  | .d (.bool false) => b ()
  | _ => none
def loopX (body : List AV → Heap → R3) (k : Nat) (live : List Nat) (n : Nat) : Nat → List AV → Heap → R3 := @Nat.rec (fun _ => Nat → List AV → Heap → R3) (fun _ _ _ => none)
  (fun _ ih m env H => @Bool.rec (fun _ => R3) (onX (body (settle k live env H).1 (settle k live env H).2) (ih (settle k live env H).2.length)) (onX (body env H) (ih m)) (Nat.ble H.length (Nat.add m 24))) n
theorem loopX_eq (body : List AV → Heap → R3) (k : Nat) (live : List Nat) : ∀ n, loopX body k live n = evLoop body k live n
  | 0 => rfl
  | n + 1 => by
    have ih := loopX_eq body k live n
    funext m env H
    show @Bool.rec (fun _ => R3) (onX (body (settle k live env H).1 (settle k live env H).2) (loopX body k live n (settle k live env H).2.length)) (onX (body env H) (loopX body k live n m)) (Nat.ble H.length (Nat.add m 24)) = _
    rw [ih, onX_eq, onX_eq, evLoop]
    cases Nat.ble H.length (Nat.add m 24) <;> rfl
/-! regions whose order is open -/
def stepT (C : Ctx) (o : AO) (env : List AV) (H : Heap) : Option (List AV × Heap) := match wanted o env with
  | some true => match anyX C o.op env H with
    | some (.ret v, H') => some (putX o.dst v env, H')
    | _ => none
  | some false => some (putX o.dst (.tup []) env, H)
  | none => none
theorem stepT_eq (C : Ctx) (o : AO) (env : List AV) (H : Heap) : stepT C o env H = evStep C o env H := by
  unfold stepT evStep
  simp only [anyX_eq, putX_eq]
  rfl
def traceX (C : Ctx) (l : List AO) : List AV → Heap → Option (List (List AV × Heap)) := @List.rec AO (fun _ => List AV → Heap → Option (List (List AV × Heap))) (fun env H => some [(env, H)])
  (fun o _ ih env H => match stepT C o env H with
    | some (env', H') => match ih env' H' with
      | some T => some ((env, H) :: T)
      | none => none
    | none => none) l
theorem traceX_eq (C : Ctx) : ∀ (l : List AO) (env : List AV) (H : Heap), traceX C l env H = evTrace C l env H
  | [], _, _ => rfl
  | o :: r, env, H => by
    show (match stepT C o env H with
      | some (env', H') => match traceX C r env' H' with
        | some T => some ((env, H) :: T)
        | none => none
      | none => none) = _
    simp only [stepT_eq, traceX_eq C r]
    rfl
def sameX (o : AO) (env : List AV) (H H' : Heap) : Bool := match wanted o env with
  | some true => match opO o.op env H, opO o.op env H' with
    | some (v, _), some (v', _) => same v v'
    | _, _ => false
  | _ => true
theorem sameX_eq (o : AO) (env : List AV) (H H' : Heap) : sameX o env H H' = sameIn o env H H' := by
  unfold sameX sameIn
  simp only [opO_eq]
  rfl
def pairX (ops : List AO) (T : List (List AV × Heap)) (p : Nat × Nat) : Bool := match ops[p.1]?, T[p.1]?, T[if p.1 < p.2 then p.2 + 1 else p.2]? with
  | some o, some (env, H), some (_, H') => sameX o env H H'
  | _, _, _ => false
theorem pairX_eq : pairX = pairOK := by
  funext ops T p
  unfold pairX pairOK
  simp only [sameX_eq]
  rfl
def drawX (C : Ctx) (ops : List AO) (draw : List (Nat × Nat)) (env : List AV) (H : Heap) : R3 := match traceX C ops env H with
  | some T => if draw.all (pairX ops T) then match T[ops.length]? with
    | some (env', H') => some (.normal, env', H')
    | none => none else none
  | none => none
def regX (C : Ctx) (ops : List AO) (draw : List (Nat × Nat)) : List AV → Heap → R3 := @List.rec (Nat × Nat) (fun _ => List AV → Heap → R3) (opsX C ops) (fun a l _ => drawX C ops (a :: l)) draw
theorem regX_eq (C : Ctx) (ops : List AO) (draw : List (Nat × Nat)) : regX C ops draw = evRegion C ops draw := by
  funext env H
  cases draw with
  | nil => show opsX C ops env H = _; rw [opsX_eq]; rfl
  | cons a l =>
    show drawX C ops (a :: l) env H = evDraw C ops (a :: l) env H
    unfold drawX evDraw
    rw [traceX_eq, pairX_eq]
    rfl
def codeX (C : Ctx) (n k : Nat) (c : ACode) : List AV → Heap → R3 := @ACode.rec (fun _ => List AV → Heap → R3)
  (fun env H => some (.normal, env, H))
  (fun ops draw => regX C ops draw)
  (fun _ _ fa fb env H => onX (fa env H) fb)
  (fun c _ _ fa fb env H => truth (c.xv env) (fun _ => fa env H) (fun _ => fb env H))
  (fun id _ f env H => onE id (f env H))
  (fun live _ f env H => loopX f k live n k env H)
  (fun zs _ f env H => match frzs zs env H with
    | some (env, H) => f env H
    | none => none)
  (fun id env H => some (.exit id, env, H)) (fun env H => some (.ret, env, H)) c
theorem codeX_eq (C : Ctx) (n k : Nat) : ∀ (c : ACode), codeX C n k c = evCode C n k c
  | .skip => rfl
  | .region ops draw => by
    show regX C ops draw = _
    rw [regX_eq]; rfl
  | .seq a b => by
    funext env H
    show onX (codeX C n k a env H) (codeX C n k b) = _
    rw [codeX_eq C n k a, codeX_eq C n k b, onX_eq]; rfl
  | .cond c a b => by
    funext env H
    show truth (c.xv env) (fun _ => codeX C n k a env H) (fun _ => codeX C n k b env H) = _
    rw [codeX_eq C n k a, codeX_eq C n k b, xv_eq]; rfl
  | .block id c => by
    funext env H
    show onE id (codeX C n k c env H) = _
    rw [codeX_eq C n k c, onE_eq]; rfl
  | .loop live c => by
    funext env H
    show loopX (codeX C n k c) k live n k env H = _
    rw [codeX_eq C n k c, loopX_eq]; rfl
  | .frz zs c => by
    funext env H
    show (match frzs zs env H with
    | some (env, H) => codeX C n k c env H
    | none => none) = _
    rw [codeX_eq C n k c]; rfl
  | .exit id => rfl
  | .ret => rfl
def bodyX (C : Ctx) (n : Nat) (F : AFunc) (args : List AV) (H : Heap) : RR :=
  match codeX C n H.length F.code (args ++ List.replicate (F.nt - args.length) .undef) H with
  | some (.panic v, _, H') => leave false H.length true v H'
  | some (.exit _, _, _) | none => none
  | some (_, env, H') => match resVs env H' F.res with
    | some [v] => leave F.mv H.length false v H'
    | some vs => leave F.mv H.length false (.tup vs) H'
    | none => none
theorem bodyX_eq (C : Ctx) (n : Nat) (F : AFunc) (args : List AV) (H : Heap) : bodyX C n F args H = evBody C n F args H := by
  unfold bodyX evBody
  rw [codeX_eq]
  rfl
def bodyOfX (A : Prg) (C : Ctx) (n f : Nat) (args : List AV) (H : Heap) : RR := match A.given f with
  | some g => g args H
  | none => match A.fs f with
    | some F => bodyX C n F args H
    | none => match A.ds f with
      | some D => evDef C n D args H
      | none => none
theorem bodyOfX_eq (A : Prg) (C : Ctx) (n f : Nat) (args : List AV) (H : Heap) : bodyOfX A C n f args H = bodyOf A C n f args H := by
  unfold bodyOfX bodyOf
  simp only [bodyX_eq]
  rfl
def memX (A : Prg) (T : FTree (List Ent)) (n : Nat) : Nat → List AV → Heap → RR := @Nat.rec (fun _ => Nat → List AV → Heap → RR) (fun _ _ _ => none)
  (fun n ih f args H => match memo T f args H with
    | some r => some r
    | none => bodyOfX A { raw := A.raw, call := ih } n f args H) n
theorem memX_eq (A : Prg) (T : FTree (List Ent)) : ∀ n, memX A T n = evMem A T n
  | 0 => rfl
  | n + 1 => by
    funext f args H
    show (match memo T f args H with
    | some r => some r
    | none => bodyOfX A { raw := A.raw, call := memX A T n } n f args H) = _
    rw [memX_eq A T n, bodyOfX_eq]; rfl
def entX (A : Prg) (T : FTree (List Ent)) (n : Nat) (e : Ent) : Bool := match bodyOfX A { raw := A.raw, call := memX A T n } n e.f e.args e.H with
  | some (.ret v, H') => (match e.r with
    | .ret v' => same v v'
    | _ => false) && sameBs H' e.H'
  | some (.pan v, H') => (match e.r with
    | .pan v' => same v v'
    | _ => false) && sameBs H' e.H'
  | none => false
theorem entX_eq (A : Prg) (T : FTree (List Ent)) (n : Nat) (e : Ent) : entX A T n e = entOK A T n e := by
  unfold entX entOK
  rw [bodyOfX_eq, memX_eq]
  rfl
end
end Go.Vm
/- A long run in pieces: the state between two pieces is written down. -/
namespace Go.Vm
open Go
noncomputable section
def ACode.l : ACode → ACode
  | .seq a _ => a
  | .cond _ a _ => a
  | .block _ c => c
  | .loop _ c => c
  | .frz _ c => c
  | c => c
def ACode.r : ACode → ACode
  | .seq _ b => b
  | .cond _ _ b => b
  | c => c
def sameR (x y : R3) : Bool := match x, y with
  | some (.normal, env, H), some (.normal, env', H') => sames env env' && sameBs H H'
  | some (.ret, env, H), some (.ret, env', H') => sames env env' && sameBs H H'
  | some (.exit i, env, H), some (.exit j, env', H') => Nat.beq i j && (sames env env' && sameBs H H')
  | _, _ => false
theorem sameR_eq {x y : R3} (h : sameR x y = true) : x = y := by
  unfold sameR at h
  split at h
  · simp only [Bool.and_eq_true] at h; rw [sames_eq h.1, sameBs_eq h.2]
  · simp only [Bool.and_eq_true] at h; rw [sames_eq h.1, sameBs_eq h.2]
  · simp only [Bool.and_eq_true] at h; rw [Nat.eq_of_beq_eq_true h.1, sames_eq h.2.1, sameBs_eq h.2.2]
  · cases h
variable {C : Ctx} {n k : Nat}
theorem runR {c : ACode} {env : List AV} {H : Heap} {r : R3} (h : sameR (codeX C n k c env H) r = true) : codeX C n k c env H = r := sameR_eq h
theorem seqR {a b : ACode} {env env1 : List AV} {H H1 : Heap} {r : R3} (h1 : codeX C n k a env H = some (.normal, env1, H1)) (h2 : codeX C n k b env1 H1 = r) : codeX C n k (.seq a b) env H = r := by
  show onX (codeX C n k a env H) (codeX C n k b) = r
  rw [h1]; exact h2
def stops (r : R3) : Bool := match r with
  | some (.normal, _, _) => false
  | _ => true
theorem onX_stop {r : R3} {f : List AV → Heap → R3} (h : stops r = true) : onX r f = r := by
  rcases r with _ | ⟨e, env, H⟩
  · rfl
  · cases e <;> first | rfl | cases h
theorem seqE {a b : ACode} {env : List AV} {H : Heap} {r : R3} (h1 : codeX C n k a env H = r) (h2 : stops r = true) : codeX C n k (.seq a b) env H = r := by
  show onX (codeX C n k a env H) (codeX C n k b) = r
  rw [h1]; exact onX_stop h2
def isB (b : Bool) (v : AV) : Bool := match v with
  | .d (.bool c) => c == b
  | _ => false
theorem isB_eq {b : Bool} {v : AV} (h : isB b v = true) : v = .d (.bool b) := by
  unfold isB at h
  split at h
  · rw [eq_of_beq h]
  · cases h
theorem condT {c : Arg} {a b : ACode} {env : List AV} {H : Heap} {r : R3} (hc : isB true (c.xv env) = true) (h : codeX C n k a env H = r) : codeX C n k (.cond c a b) env H = r := by
  show truth (c.xv env) (fun _ => codeX C n k a env H) (fun _ => codeX C n k b env H) = r
  rw [isB_eq hc]; exact h
theorem condF {c : Arg} {a b : ACode} {env : List AV} {H : Heap} {r : R3} (hc : isB false (c.xv env) = true) (h : codeX C n k b env H = r) : codeX C n k (.cond c a b) env H = r := by
  show truth (c.xv env) (fun _ => codeX C n k a env H) (fun _ => codeX C n k b env H) = r
  rw [isB_eq hc]; exact h
theorem blockR {id : Nat} {c : ACode} {env : List AV} {H : Heap} {r r' : R3} (h : codeX C n k c env H = r) (hr : onE id r = r') : codeX C n k (.block id c) env H = r' := by
  show onE id (codeX C n k c env H) = r'
  rw [h]; exact hr
theorem loopR {live : List Nat} {c : ACode} {env : List AV} {H : Heap} {r : R3} (h : loopX (codeX C n k c) k live n k env H = r) : codeX C n k (.loop live c) env H = r := h
/-- so many rounds, each of which goes on -/
def loopJ (body : List AV → Heap → R3) (k : Nat) (live : List Nat) (j : Nat) : Nat → List AV → Heap → Option (Nat × List AV × Heap) := @Nat.rec (fun _ => Nat → List AV → Heap → Option (Nat × List AV × Heap)) (fun m env H => some (m, env, H))
  (fun _ ih m env H => @Bool.rec (fun _ => Option (Nat × List AV × Heap)) (match body (settle k live env H).1 (settle k live env H).2 with
      | some (.normal, env', H') => ih (settle k live env H).2.length env' H'
      | _ => none)
    (match body env H with
      | some (.normal, env', H') => ih m env' H'
      | _ => none) (Nat.ble H.length (Nat.add m 24))) j
theorem loopJ_run {body : List AV → Heap → R3} {live : List Nat} (n : Nat) : ∀ (j m : Nat) (env : List AV) (H : Heap) (m' : Nat) (env' : List AV) (H' : Heap), loopJ body k live j m env H = some (m', env', H') → loopX body k live (n + j) m env H = loopX body k live n m' env' H'
  | 0, m, env, H, m', env', H', h => by
    cases h; rfl
  | j + 1, m, env, H, m', env', H', h => by
    have h' : @Bool.rec (fun _ => Option (Nat × List AV × Heap)) (match body (settle k live env H).1 (settle k live env H).2 with
      | some (.normal, env', H') => loopJ body k live j (settle k live env H).2.length env' H'
      | _ => none)
      (match body env H with
      | some (.normal, env', H') => loopJ body k live j m env' H'
      | _ => none) (Nat.ble H.length (Nat.add m 24)) = some (m', env', H') := h
    show @Bool.rec (fun _ => R3) (onX (body (settle k live env H).1 (settle k live env H).2) (loopX body k live (n + j) (settle k live env H).2.length)) (onX (body env H) (loopX body k live (n + j) m)) (Nat.ble H.length (Nat.add m 24)) = _
    cases hb : Nat.ble H.length (Nat.add m 24) with
    | true =>
      rw [hb] at h'
      dsimp only at h' ⊢
      split at h'
      · rename_i e1 H1 e2
        rw [e2]
        exact loopJ_run n j _ _ _ _ _ _ h'
      · cases h'
    | false =>
      rw [hb] at h'
      dsimp only at h' ⊢
      split at h'
      · rename_i e1 H1 e2
        rw [e2]
        exact loopJ_run n j _ _ _ _ _ _ h'
      · cases h'
def sameJ (x : Option (Nat × List AV × Heap)) (m : Nat) (env : List AV) (H : Heap) : Bool := match x with
  | some (m', env', H') => Nat.beq m' m && (sames env' env && sameBs H' H)
  | none => false
theorem sameJ_eq {x : Option (Nat × List AV × Heap)} {m : Nat} {env : List AV} {H : Heap} (h : sameJ x m env H = true) : x = some (m, env, H) := by
  unfold sameJ at h
  split at h
  · simp only [Bool.and_eq_true] at h
    rw [Nat.eq_of_beq_eq_true h.1, sames_eq h.2.1, sameBs_eq h.2.2]
  · cases h
/-- some rounds, and those that follow -/
theorem roundsR {body : List AV → Heap → R3} {live : List Nat} {N n j m m1 : Nat} {env env1 : List AV} {H H1 : Heap} {r : R3} (hN : N = n + j) (h : sameJ (loopJ body k live j m env H) m1 env1 H1 = true) (h2 : loopX body k live n m1 env1 H1 = r) : loopX body k live N m env H = r := by
  subst hN
  rw [loopJ_run n j m env H m1 env1 H1 (sameJ_eq h)]
  exact h2
/-- the rest at once -/
theorem restR {body : List AV → Heap → R3} {live : List Nat} {n m : Nat} {env : List AV} {H : Heap} {r : R3} (h : sameR (loopX body k live n m env H) r = true) : loopX body k live n m env H = r := sameR_eq h
/-- one round by itself -/
theorem roundR {body : List AV → Heap → R3} {live : List Nat} {N n m : Nat} {env env1 : List AV} {H H1 : Heap} {r : R3} (hN : N = n + 1) (hb : Nat.ble H.length (Nat.add m 24) = true) (h : body env H = some (.normal, env1, H1)) (h2 : loopX body k live n m env1 H1 = r) : loopX body k live N m env H = r := by
  subst hN
  show @Bool.rec (fun _ => R3) (onX (body (settle k live env H).1 (settle k live env H).2) (loopX body k live n (settle k live env H).2.length)) (onX (body env H) (loopX body k live n m)) (Nat.ble H.length (Nat.add m 24)) = r
  rw [hb]
  dsimp only
  rw [h]; exact h2
theorem roundE {body : List AV → Heap → R3} {live : List Nat} {N n m : Nat} {env : List AV} {H : Heap} {r : R3} (hN : N = n + 1) (hb : Nat.ble H.length (Nat.add m 24) = true) (h : body env H = r) (h2 : stops r = true) : loopX body k live N m env H = r := by
  subst hN
  show @Bool.rec (fun _ => R3) (onX (body (settle k live env H).1 (settle k live env H).2) (loopX body k live n (settle k live env H).2.length)) (onX (body env H) (loopX body k live n m)) (Nat.ble H.length (Nat.add m 24)) = r
  rw [hb]
  dsimp only
  rw [h]; exact onX_stop h2
/-- the heap is tidied first -/
theorem tidyR {body : List AV → Heap → R3} {live : List Nat} {n m : Nat} {env env1 : List AV} {H H1 : Heap} {r : R3} (hb : Nat.ble H.length (Nat.add m 24) = false) (hs : (sames (settle k live env H).1 env1 && sameBs (settle k live env H).2 H1) = true) (h2 : loopX body k live n H1.length env1 H1 = r) : loopX body k live n m env H = r := by
  simp only [Bool.and_eq_true] at hs
  have e1 := sames_eq hs.1
  have e2 := sameBs_eq hs.2
  cases n with
  | zero => exact h2
  | succ n =>
    rw [← h2]
    show @Bool.rec (fun _ => R3) (onX (body (settle k live env H).1 (settle k live env H).2) (loopX body k live n (settle k live env H).2.length)) (onX (body env H) (loopX body k live n m)) (Nat.ble H.length (Nat.add m 24)) = @Bool.rec (fun _ => R3) _ (onX (body env1 H1) (loopX body k live n H1.length)) (Nat.ble H1.length (Nat.add H1.length 24))
    have hl : Nat.ble H1.length (Nat.add H1.length 24) = true := Nat.ble_eq.mpr (Nat.le_add_right _ _)
    rw [hb, hl]
    dsimp only
    rw [e1, e2]
/-! ### an entry by way of its code -/
def endX (F : AFunc) (k : Nat) (r : R3) : RR := match r with
  | some (.panic v, _, H') => leave false k true v H'
  | some (.exit _, _, _) | none => none
  | some (_, env, H') => match resVs env H' F.res with
    | some [v] => leave F.mv k false v H'
    | some vs => leave F.mv k false (.tup vs) H'
    | none => none
def entEnd (e : Ent) (x : RR) : Bool := match x with
  | some (.ret v, H') => (match e.r with
    | .ret v' => same v v'
    | _ => false) && sameBs H' e.H'
  | some (.pan v, H') => (match e.r with
    | .pan v' => same v v'
    | _ => false) && sameBs H' e.H'
  | none => false
theorem entX_cut {A : Prg} {T : FTree (List Ent)} {n : Nat} {e : Ent} {F : AFunc} {r : R3} (hg : A.given e.f = none) (hf : A.fs e.f = some F)
    (hc : codeX { raw := A.raw, call := memX A T n } n e.H.length F.code (e.args ++ List.replicate (F.nt - e.args.length) .undef) e.H = r) (h : entEnd e (endX F e.H.length r) = true) : entX A T n e = true := by
  have h1 : bodyOfX A { raw := A.raw, call := memX A T n } n e.f e.args e.H = endX F e.H.length r := by
    unfold bodyOfX
    rw [hg, hf]
    dsimp only
    unfold bodyX
    rw [hc]
    rfl
  unfold entX
  rw [h1]
  exact h
end
end Go.Vm
/- A program's functions as trees; what a law's row asks of a call that leaves all old blocks as they were. -/
namespace Go.Vm
open Go Go.ChangeShapes Go.WideShapes Go.ChangeAt Go.RowKit
def okAt (P : Program) (k : Nat) (F : AFunc) : Bool := match P.funcs[k]? with
  | some fn => okFunc P F fn && isGo P k
  | none => false
def okAtD (P : Program) (k : Nat) (D : DFunc) : Bool := match P.funcs[k]? with
  | some fn => okDef P D fn && isGo P k
  | none => false
theorem prgOK_of {P : Program} {fs : FTree AFunc} {ds : FTree DFunc} {raw : Nat → Bool} (hm : P.follows .mixedOrders = true) (hf : fs.All fun k F => okAt P k F = true) (hd : ds.All fun k D => okAtD P k D = true) : PrgOK P ⟨fs.get, ds.get, fun _ => none, raw⟩ where
  mixed := hm
  fs f F h := by
    have := FTree.get_all hf h
    unfold okAt at this
    split at this
    · rename_i fn hfn
      simp only [Bool.and_eq_true] at this
      exact ⟨fn, hfn, this.1⟩
    · cases this
  ds f D h := by
    have := FTree.get_all hd h
    unfold okAtD at this
    split at this
    · rename_i fn hfn
      simp only [Bool.and_eq_true] at this
      exact ⟨fn, hfn, this.1⟩
    · cases this
  go f h := by
    rcases h with h | h | h
    · obtain ⟨F, hF⟩ := Option.isSome_iff_exists.1 h
      have := FTree.get_all hf hF
      unfold okAt at this
      split at this
      · simp only [Bool.and_eq_true] at this; exact this.2
      · cases this
    · obtain ⟨D, hD⟩ := Option.isSome_iff_exists.1 h
      have := FTree.get_all hd hD
      unfold okAtD at this
      split at this
      · simp only [Bool.and_eq_true] at this; exact this.2
      · cases this
    · cases h
  given f g h := by cases h
theorem ents_nil {P : Program} : ∀ e ∈ ([] : List Ent), EntOK P e := fun e h => by cases h
theorem ents_cons {P : Program} {a : Ent} {T : List Ent} (h : EntOK P a) (hT : ∀ e ∈ T, EntOK P e) : ∀ e ∈ a :: T, EntOK P e := fun e he => by
  cases he with
  | head => exact h
  | tail _ h' => exact hT e h'
theorem entX_sound {P : Program} {A : Prg} (hA : PrgOK P A) {T : FTree (List Ent)} (hT : T.All fun _ l => ∀ e ∈ l, EntOK P e) {n : Nat} {e : Ent} (h : entX A T n e = true) : EntOK P e := ent_sound hA hT (n := n) (by rw [← entX_eq]; exact h)
/-- all blocks that were there are as they were -/
structure Keeps (w w' : World) : Prop where
  os : w'.os = w.os
  output : w'.output = w.output
  size : w.heap.size ≤ w'.heap.size
  block : ∀ B, B < w.heap.size → w'.heap[B]? = w.heap[B]?
theorem EntOK.keeps {P : Program} {f : Nat} {b : Bool} {H' : Heap} (h : EntOK P ⟨f, [], [], .ret (.d (.bool b)), H'⟩) (w : World) : Calls P f #[] w fun e w' => e = .returned (.bool b) ∧ Keeps w w' := by
  have hs : Sim (fun _ => none) (fun _ _ => none) w [] := ⟨fun _ _ _ h => (by cases h), fun _ _ => rfl, fun b k h => (by cases h), fun b _ _ _ _ h => (by cases h)⟩
  refine (h.call _ _ w #[] hs ⟨rfl, fun i v a h => by simp at h⟩).mono ?_
  rintro e w' ⟨μ', M', hs', hn, u, rfl, hv⟩
  refine ⟨?_, hn.fr.os, hn.fr.output, hn.fr.size, fun B hB => hn.fr.block B hB ?_⟩
  · cases hv with
    | d h => cases h; rfl
  · rintro ⟨b, l, hb, _⟩
    cases hb
theorem Keeps.kept {w w' : World} (h : Keeps w w') (p : MemPlace → Prop) : w.keptBut w' p := by
  refine ⟨h.os, h.output, fun i hi => ?_⟩
  rw [h.block i hi]
  cases w.heap[i]? with
  | none => rfl
  | some o => cases o <;> simp
theorem Keeps.frozen {w w' : World} (h : Keeps w w') {a : Addr} (ha : a.block < w.heap.size) : w'.frozen? a = w.frozen? a := by
  unfold World.frozen?
  rw [h.block _ ha]
section
variable {H : Type} {enc : TypeId × Value → H} {P : Program}
/-- what a row asks of a call that keeps all old blocks -/
theorem post_kept {f : Func} {s : ChangeSpec} {apart fresh handsOn again : Bool} {W W' : World} {args : Array Value} {v : Value} {ds gs : List (DataW H)} {before pa pv : List MemPlace}
    (hW : DataW.Whole enc P f.params.toList s.vars apart W args.toList ds gs before)
    (hres : ∀ (b : Nat) (sp : Nat → Bool) (hd : Bool), DataW.TrodAll enc P W' b sp hd f.resultTypes.toList (v.resultList f.resultTypes.size) (s.fn H (ds ++ gs)).results [])
    (hargs : ∀ sp : Nat → Bool, (∀ p ∈ before, sp p.block = true) → DataW.TrodAll enc P W' 0 sp true f.params.toList args.toList (s.fn H (ds ++ gs)).args pa)
    (hvars : ∀ sp : Nat → Bool, (∀ p ∈ before, sp p.block = true) → DataW.TrodVars enc P W' sp s.vars (s.fn H (ds ++ gs)).vars pv)
    (hps : before = pa ++ pv) (hk : Keeps W W')
    (hok : ∀ (j : Nat) (t : TypeId) (r : Value), f.resultTypes[j]? = some t → (v.resultList f.resultTypes.size)[j]? = some r → Value.okWide P W' .any 0 t r) :
    s.post enc P f apart fresh handsOn again W args v W' := by
  have hlt := hW.lt
  have hold : ∀ p ∈ before, (fun b => decide (b < W.heap.size)) p.block = true := fun p hp => by simpa using hlt p hp
  refine ⟨ds, gs, before, [], pa, pv, hW, hres _ _ _, hargs _ hold, hvars _ hold, hk.kept _, fun _ => ?_⟩
  obtain ⟨_, _, _, _, _, hz, hn⟩ := hW
  refine ⟨hok, _, _, ([] ++ pa) ++ pv, ⟨[] ++ pa, pv, trodAll_append (hargs _ (fun _ _ => rfl)) (hres _ _ _), hvars _ (fun _ _ => rfl), rfl, ?_, ?_⟩, ?_⟩
  · intro b off hp
    have hb : (MemPlace.cell b off) ∈ before := by rw [hps]; simpa using hp
    rw [hk.frozen (hlt _ hb)]
    exact hz b off hb
  · intro ha
    have := hn ha
    rw [hps] at this
    simpa using this
  · intro p hp _
    rw [hps]
    simpa using hp
end
/-- one operation of a function's code -/
def T.A (d : Nat) (x : AOp) : AO := ⟨some d, x, none, 0⟩
end Go.Vm
