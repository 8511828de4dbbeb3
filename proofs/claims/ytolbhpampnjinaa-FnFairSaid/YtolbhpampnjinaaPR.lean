/- Data of the program, and its functions over it. Definitions only. -/
import Derived.Test.YtolbhpampnjinaaEvM3
import Derived.KernelRfl
namespace Go.Proofs.Ytolbhpampnjinaa.Ev
open Go Go.Proofs Go.RowKit
set_option linter.unusedVariables false
set_option linter.unusedSimpArgs false
structure GWave where
  cycle : Int
  addr : Int
  kind : Int
  who : Int
  data_ : Int
  from_ : Int
  ready : Bool
  resp : Int
  got : Int
  deriving DecidableEq
structure GL1Cur where
  b : List Int
  i : Int
  h : Int
  deriving DecidableEq
structure GApb where
  state : Int
  left : Int
  deriving DecidableEq
structure GDone where
  cycle : Int
  who : Int
  write : Bool
  addr : Int
  size : Int
  value : Int
  resp : Int
  deriving DecidableEq
structure GReq where
  write : Bool
  addr : Int
  size : Int
  burst : Int
  lock : Bool
  data_ : List Int
  deriving DecidableEq
structure GPost where
  at_ : Int
  who : Int
  req : GReq
  deriving DecidableEq
structure GScript where
  posts : List GPost
  waits : List Int
  says : List Int
  deriving DecidableEq
structure GMConf where
  weight : Int
  prio : Bool
  every : Int
  cap : Int
  deriving DecidableEq
structure GConf where
  masters : List GMConf
  quantum : Int
  maxWait : Int
  maxRetry : Int
  maxSplit : Int
  lockMost : Int
  deriving DecidableEq
structure GWrr where
  at_ : Int
  credit : Int
  deriving DecidableEq
def GWave.enc (x : GWave) : List V := [.lit (.int .i64 x.cycle), .lit (.int .i64 x.addr), .lit (.int .i64 x.kind), .lit (.int .i64 x.who), .lit (.int .i64 x.data_), .lit (.int .i64 x.from_), .lit (.bool x.ready), .lit (.int .i64 x.resp), .lit (.int .i64 x.got)]
theorem GWave.enc_len (x : GWave) : (GWave.enc x).length = 9 := rfl
def GWave.ok (z : GWave) : Prop := (Lit.int .i64 z.cycle).wf = true ∧ (Lit.int .i64 z.addr).wf = true ∧ (Lit.int .i64 z.kind).wf = true ∧ (Lit.int .i64 z.who).wf = true ∧ (Lit.int .i64 z.data_).wf = true ∧ (Lit.int .i64 z.from_).wf = true ∧ True ∧ (Lit.int .i64 z.resp).wf = true ∧ (Lit.int .i64 z.got).wf = true
theorem GWave.enc_lit (x : GWave) : (GWave.enc x).all isLit = true := rfl
def GL1Cur.enc (x : GL1Cur) : List V := [.tr (x.b.map encU), .lit (.int .i64 x.i), .lit (.int .i64 x.h)]
theorem GL1Cur.enc_len (x : GL1Cur) : (GL1Cur.enc x).length = 3 := rfl
def GL1Cur.ok (z : GL1Cur) : Prop := (z.b.length ≤ maxLen ∧ ∀ x ∈ z.b, (Lit.int .u8 x).wf = true) ∧ (Lit.int .i64 z.i).wf = true ∧ (Lit.int .i64 z.h).wf = true
def GApb.enc (x : GApb) : List V := [.lit (.int .i64 x.state), .lit (.int .i64 x.left)]
theorem GApb.enc_len (x : GApb) : (GApb.enc x).length = 2 := rfl
def GApb.ok (z : GApb) : Prop := (Lit.int .i64 z.state).wf = true ∧ (Lit.int .i64 z.left).wf = true
theorem GApb.enc_lit (x : GApb) : (GApb.enc x).all isLit = true := rfl
def GDone.enc (x : GDone) : List V := [.lit (.int .i64 x.cycle), .lit (.int .i64 x.who), .lit (.bool x.write), .lit (.int .i64 x.addr), .lit (.int .i64 x.size), .lit (.int .i64 x.value), .lit (.int .i64 x.resp)]
theorem GDone.enc_len (x : GDone) : (GDone.enc x).length = 7 := rfl
def GDone.ok (z : GDone) : Prop := (Lit.int .i64 z.cycle).wf = true ∧ (Lit.int .i64 z.who).wf = true ∧ True ∧ (Lit.int .i64 z.addr).wf = true ∧ (Lit.int .i64 z.size).wf = true ∧ (Lit.int .i64 z.value).wf = true ∧ (Lit.int .i64 z.resp).wf = true
theorem GDone.enc_lit (x : GDone) : (GDone.enc x).all isLit = true := rfl
def GReq.enc (x : GReq) : List V := [.lit (.bool x.write), .lit (.int .i64 x.addr), .lit (.int .i64 x.size), .lit (.int .i64 x.burst), .lit (.bool x.lock), .tr (x.data_.map encI)]
theorem GReq.enc_len (x : GReq) : (GReq.enc x).length = 6 := rfl
def GReq.ok (z : GReq) : Prop := True ∧ (Lit.int .i64 z.addr).wf = true ∧ (Lit.int .i64 z.size).wf = true ∧ (Lit.int .i64 z.burst).wf = true ∧ True ∧ (z.data_.length ≤ maxLen ∧ ∀ x ∈ z.data_, (Lit.int .i64 x).wf = true)
def GPost.enc (x : GPost) : List V := [.lit (.int .i64 x.at_), .lit (.int .i64 x.who), .lit (.bool x.req.write), .lit (.int .i64 x.req.addr), .lit (.int .i64 x.req.size), .lit (.int .i64 x.req.burst), .lit (.bool x.req.lock), .tr (x.req.data_.map encI)]
theorem GPost.enc_len (x : GPost) : (GPost.enc x).length = 8 := rfl
def GPost.ok (z : GPost) : Prop := (Lit.int .i64 z.at_).wf = true ∧ (Lit.int .i64 z.who).wf = true ∧ GReq.ok z.req
def GScript.enc (x : GScript) : List V := [.tr (x.posts.map GPost.enc), .tr (x.waits.map encI), .tr (x.says.map encI)]
theorem GScript.enc_len (x : GScript) : (GScript.enc x).length = 3 := rfl
def GScript.ok (z : GScript) : Prop := (z.posts.length ≤ maxLen ∧ ∀ x ∈ z.posts, GPost.ok x) ∧ (z.waits.length ≤ maxLen ∧ ∀ x ∈ z.waits, (Lit.int .i64 x).wf = true) ∧ (z.says.length ≤ maxLen ∧ ∀ x ∈ z.says, (Lit.int .i64 x).wf = true)
def GMConf.enc (x : GMConf) : List V := [.lit (.int .i64 x.weight), .lit (.bool x.prio), .lit (.int .i64 x.every), .lit (.int .i64 x.cap)]
theorem GMConf.enc_len (x : GMConf) : (GMConf.enc x).length = 4 := rfl
def GMConf.ok (z : GMConf) : Prop := (Lit.int .i64 z.weight).wf = true ∧ True ∧ (Lit.int .i64 z.every).wf = true ∧ (Lit.int .i64 z.cap).wf = true
theorem GMConf.enc_lit (x : GMConf) : (GMConf.enc x).all isLit = true := rfl
def GConf.enc (x : GConf) : List V := [.tr (x.masters.map GMConf.enc), .lit (.int .i64 x.quantum), .lit (.int .i64 x.maxWait), .lit (.int .i64 x.maxRetry), .lit (.int .i64 x.maxSplit), .lit (.int .i64 x.lockMost)]
theorem GConf.enc_len (x : GConf) : (GConf.enc x).length = 6 := rfl
def GConf.ok (z : GConf) : Prop := (z.masters.length ≤ maxLen ∧ ∀ x ∈ z.masters, GMConf.ok x) ∧ (Lit.int .i64 z.quantum).wf = true ∧ (Lit.int .i64 z.maxWait).wf = true ∧ (Lit.int .i64 z.maxRetry).wf = true ∧ (Lit.int .i64 z.maxSplit).wf = true ∧ (Lit.int .i64 z.lockMost).wf = true
def GWrr.enc (x : GWrr) : List V := [.lit (.int .i64 x.at_), .lit (.int .i64 x.credit)]
theorem GWrr.enc_len (x : GWrr) : (GWrr.enc x).length = 2 := rfl
def GWrr.ok (z : GWrr) : Prop := (Lit.int .i64 z.at_).wf = true ∧ (Lit.int .i64 z.credit).wf = true
theorem GWrr.enc_lit (x : GWrr) : (GWrr.enc x).all isLit = true := rfl
def p_w_szWaveS (x0 : List GWave) (x1 : Int) : Option Int :=
  if decide ((subW x1 (x0.length : Int)) < 0) = true then (
    some (-1))
  else (
    some (subW x1 (x0.length : Int)))

def p_w_toWave (x0 : GWave) : Option GWave :=
  some x0

def p_w_toWaveS__L1b (x0 : List GWave)  (k : (List GWave) → Int → Option (List GWave)) (v3 : List GWave) (v4 : Int) : Option (List GWave) :=
  if decide (v4 < (x0.length : Int)) = true then (
    (idx x0 v4).bind fun a504 =>
    (p_w_toWave a504).bind fun r506 =>
    (idx v3 v4).bind fun a507 =>
    (setO v3 v4 r506).bind fun y508 =>
    k y508 (addW v4 1))
  else (
    some v3)

def p_w_toWaveS__L1 (x0 : List GWave)  : Nat → (List GWave) → Int → Option (List GWave)
  | 0, _, _ => none
  | m + 1, v3, v4 => p_w_toWaveS__L1b x0  (fun v3 v4 => p_w_toWaveS__L1 x0  m v3 v4) v3 v4

def p_w_toWaveS (x0 : List GWave) : Option (List GWave) :=
  (mkI 72 (x0.length : Int) (GWave.mk 0 0 0 0 0 0 false 0 0)).bind fun m102 =>
  p_w_toWaveS__L1 x0 FU m102 0

def p_s_BusyOf__L1b (x0 : List GWave)  (k : Int → Int → Option Int) (v3 : Int) (v4 : Int) : Option Int :=
  if decide (v4 < (x0.length : Int)) = true then (
    (idx x0 v4).bind fun a502 =>
    if decide (a502.data_ ≥ 0) = true then (
      k (addW v3 1) (addW v4 1))
    else (
      k v3 (addW v4 1)))
  else (
    some v3)

def p_s_BusyOf__L1 (x0 : List GWave)  : Nat → Int → Int → Option Int
  | 0, _, _ => none
  | m + 1, v3, v4 => p_s_BusyOf__L1b x0  (fun v3 v4 => p_s_BusyOf__L1 x0  m v3 v4) v3 v4

def p_s_BusyOf (x0 : List GWave) : Option Int :=
  p_s_BusyOf__L1 x0 FU 0 0

def p_i_BusyOf_1 (x0 : GWave) : Option Bool :=
  some (decide (x0.data_ ≥ 0))

def p_i_countOf__i_BusyOf_1__L1b (x0 : List GWave)  (k : Int → Int → Option Int) (v5 : Int) (v10 : Int) : Option Int :=
  if decide (v10 < (x0.length : Int)) = true then (
    (idx x0 v10).bind fun a400 =>
    (p_i_BusyOf_1 a400).bind fun r502 =>
    if r502 = true then (
      k (addW v5 1) (addW v10 1))
    else (
      k v5 (addW v10 1)))
  else (
    some v5)

def p_i_countOf__i_BusyOf_1__L1 (x0 : List GWave)  : Nat → Int → Int → Option Int
  | 0, _, _ => none
  | m + 1, v5, v10 => p_i_countOf__i_BusyOf_1__L1b x0  (fun v5 v10 => p_i_countOf__i_BusyOf_1__L1 x0  m v5 v10) v5 v10

def p_i_countOf__i_BusyOf_1 (x0 : List GWave) : Option Int :=
  p_i_countOf__i_BusyOf_1__L1 x0 FU 0 0

def p_i_BusyOf (x0 : List GWave) : Option Int :=
  (p_i_countOf__i_BusyOf_1 x0).bind fun r101 =>
  some r101

def p_w_eqWave (x0 : GWave) (x1 : GWave) : Option Bool :=
  if decide (x0.cycle ≠ x1.cycle) = true then (
    some false)
  else (
    if decide (x0.addr ≠ x1.addr) = true then (
      some false)
    else (
      if decide (x0.kind ≠ x1.kind) = true then (
        some false)
      else (
        if decide (x0.who ≠ x1.who) = true then (
          some false)
        else (
          if decide (x0.data_ ≠ x1.data_) = true then (
            some false)
          else (
            if decide (x0.from_ ≠ x1.from_) = true then (
              some false)
            else (
              if (x0.ready != x1.ready) = true then (
                some false)
              else (
                if decide (x0.resp ≠ x1.resp) = true then (
                  some false)
                else (
                  if decide (x0.got ≠ x1.got) = true then (
                    some false)
                  else (
                    some true)))))))))

def p_w_eqWaveS__L1b (x0 : List GWave) (x1 : List GWave)  (k : Int → Option Bool) (v5 : Int) : Option Bool :=
  if decide (v5 < (x0.length : Int)) = true then (
    (idx x0 v5).bind fun a602 =>
    (idx x1 v5).bind fun a606 =>
    (p_w_eqWave a602 a606).bind fun r608 =>
    if (!r608) = true then (
      some false)
    else (
      k (addW v5 1)))
  else (
    some true)

def p_w_eqWaveS__L1 (x0 : List GWave) (x1 : List GWave)  : Nat → Int → Option Bool
  | 0, _ => none
  | m + 1, v5 => p_w_eqWaveS__L1b x0 x1  (fun v5 => p_w_eqWaveS__L1 x0 x1  m v5) v5

def p_w_eqWaveS (x0 : List GWave) (x1 : List GWave) : Option Bool :=
  if decide ((x0.length : Int) ≠ (x1.length : Int)) = true then (
    some false)
  else (
    p_w_eqWaveS__L1 x0 x1 FU 0)

def p_w_FnExactBusyOf (x0 : List GWave) : Option Bool :=
  (p_w_szWaveS x0 1048576).bind fun r202 =>
  if decide (r202 < 0) = true then (
    some true)
  else (
    (p_w_toWaveS x0).bind fun r501 =>
    (p_s_BusyOf r501).bind fun r502 =>
    (p_w_toWaveS x0).bind fun r601 =>
    (p_i_BusyOf r601).bind fun r701 =>
    if decide (r701 ≠ r502) = true then (
      some false)
    else (
      (p_w_toWaveS x0).bind fun r1002 =>
      (p_w_eqWaveS r601 r1002).bind fun r1003 =>
      if (!r1003) = true then (
        some false)
      else (
        some true)))

def p_s_Cancelled__L1b (x0 : List GWave)  (k : Int → Int → Option Int) (v3 : Int) (v4 : Int) : Option Int :=
  if decide (v4 < (x0.length : Int)) = true then (
    (idx x0 v4).bind fun a502 =>
    if (!a502.ready) = true then (
      if decide (a502.resp ≠ 0) = true then (
        if decide (a502.addr ≥ 0) = true then (
          k (addW v3 1) (addW v4 1))
        else (
          k v3 (addW v4 1)))
      else (
        k v3 (addW v4 1)))
    else (
      k v3 (addW v4 1)))
  else (
    some v3)

def p_s_Cancelled__L1 (x0 : List GWave)  : Nat → Int → Int → Option Int
  | 0, _, _ => none
  | m + 1, v3, v4 => p_s_Cancelled__L1b x0  (fun v3 v4 => p_s_Cancelled__L1 x0  m v3 v4) v3 v4

def p_s_Cancelled (x0 : List GWave) : Option Int :=
  p_s_Cancelled__L1 x0 FU 0 0

def p_i_Cancelled_1 (x0 : GWave) : Option Bool :=
  if (!x0.ready) = true then (
    if decide (x0.resp ≠ 0) = true then (
      some (decide (x0.addr ≥ 0)))
    else (
      some false))
  else (
    some false)

def p_i_countOf__i_Cancelled_1__L1b (x0 : List GWave)  (k : Int → Int → Option Int) (v5 : Int) (v10 : Int) : Option Int :=
  if decide (v10 < (x0.length : Int)) = true then (
    (idx x0 v10).bind fun a400 =>
    (p_i_Cancelled_1 a400).bind fun r502 =>
    if r502 = true then (
      k (addW v5 1) (addW v10 1))
    else (
      k v5 (addW v10 1)))
  else (
    some v5)

def p_i_countOf__i_Cancelled_1__L1 (x0 : List GWave)  : Nat → Int → Int → Option Int
  | 0, _, _ => none
  | m + 1, v5, v10 => p_i_countOf__i_Cancelled_1__L1b x0  (fun v5 v10 => p_i_countOf__i_Cancelled_1__L1 x0  m v5 v10) v5 v10

def p_i_countOf__i_Cancelled_1 (x0 : List GWave) : Option Int :=
  p_i_countOf__i_Cancelled_1__L1 x0 FU 0 0

def p_i_Cancelled (x0 : List GWave) : Option Int :=
  (p_i_countOf__i_Cancelled_1 x0).bind fun r101 =>
  some r101

def p_w_FnExactCancelled (x0 : List GWave) : Option Bool :=
  (p_w_szWaveS x0 1048576).bind fun r202 =>
  if decide (r202 < 0) = true then (
    some true)
  else (
    (p_w_toWaveS x0).bind fun r501 =>
    (p_s_Cancelled r501).bind fun r502 =>
    (p_w_toWaveS x0).bind fun r601 =>
    (p_i_Cancelled r601).bind fun r701 =>
    if decide (r701 ≠ r502) = true then (
      some false)
    else (
      (p_w_toWaveS x0).bind fun r1002 =>
      (p_w_eqWaveS r601 r1002).bind fun r1003 =>
      if (!r1003) = true then (
        some false)
      else (
        some true)))

def p_s_CountResp__L1b (x0 : List GWave) (x1 : Int)  (k : Int → Int → Option Int) (v5 : Int) (v6 : Int) : Option Int :=
  if decide (v6 < (x0.length : Int)) = true then (
    (idx x0 v6).bind fun a502 =>
    if a502.ready = true then (
      if decide (a502.data_ ≥ 0) = true then (
        if decide (a502.resp = x1) = true then (
          k (addW v5 1) (addW v6 1))
        else (
          k v5 (addW v6 1)))
      else (
        k v5 (addW v6 1)))
    else (
      k v5 (addW v6 1)))
  else (
    some v5)

def p_s_CountResp__L1 (x0 : List GWave) (x1 : Int)  : Nat → Int → Int → Option Int
  | 0, _, _ => none
  | m + 1, v5, v6 => p_s_CountResp__L1b x0 x1  (fun v5 v6 => p_s_CountResp__L1 x0 x1  m v5 v6) v5 v6

def p_s_CountResp (x0 : List GWave) (x1 : Int) : Option Int :=
  p_s_CountResp__L1 x0 x1 FU 0 0

def p_i_CountResp_1 (x0 : GWave) (x1 : Int) : Option Bool :=
  if x0.ready = true then (
    if decide (x0.data_ ≥ 0) = true then (
      some (decide (x0.resp = x1)))
    else (
      some false))
  else (
    some false)

def p_i_countOf__i_CountResp_1__L1b (x0 : List GWave) (x1c0 : Int)  (k : Int → Int → Option Int) (v5 : Int) (v10 : Int) : Option Int :=
  if decide (v10 < (x0.length : Int)) = true then (
    (idx x0 v10).bind fun a400 =>
    (p_i_CountResp_1 a400 x1c0).bind fun r502 =>
    if r502 = true then (
      k (addW v5 1) (addW v10 1))
    else (
      k v5 (addW v10 1)))
  else (
    some v5)

def p_i_countOf__i_CountResp_1__L1 (x0 : List GWave) (x1c0 : Int)  : Nat → Int → Int → Option Int
  | 0, _, _ => none
  | m + 1, v5, v10 => p_i_countOf__i_CountResp_1__L1b x0 x1c0  (fun v5 v10 => p_i_countOf__i_CountResp_1__L1 x0 x1c0  m v5 v10) v5 v10

def p_i_countOf__i_CountResp_1 (x0 : List GWave) (x1c0 : Int) : Option Int :=
  p_i_countOf__i_CountResp_1__L1 x0 x1c0 FU 0 0

def p_i_CountResp (x0 : List GWave) (x1 : Int) : Option Int :=
  (p_i_countOf__i_CountResp_1 x0 x1).bind fun r102 =>
  some r102

def p_w_FnExactCountResp (x0 : List GWave) (x1 : Int) : Option Bool :=
  (p_w_szWaveS x0 1048576).bind fun r202 =>
  if decide (r202 < 0) = true then (
    some true)
  else (
    (p_w_toWaveS x0).bind fun r501 =>
    (p_s_CountResp r501 x1).bind fun r503 =>
    (p_w_toWaveS x0).bind fun r601 =>
    (p_i_CountResp r601 x1).bind fun r702 =>
    if decide (r702 ≠ r503) = true then (
      some false)
    else (
      (p_w_toWaveS x0).bind fun r1002 =>
      (p_w_eqWaveS r601 r1002).bind fun r1003 =>
      if (!r1003) = true then (
        some false)
      else (
        some true)))

def p_s_WaitsOf__L1b (x0 : List GWave)  (k : Int → Int → Option Int) (v3 : Int) (v4 : Int) : Option Int :=
  if decide (v4 < (x0.length : Int)) = true then (
    (idx x0 v4).bind fun a502 =>
    if (!a502.ready) = true then (
      if decide (a502.resp = 0) = true then (
        k (addW v3 1) (addW v4 1))
      else (
        k v3 (addW v4 1)))
    else (
      k v3 (addW v4 1)))
  else (
    some v3)

def p_s_WaitsOf__L1 (x0 : List GWave)  : Nat → Int → Int → Option Int
  | 0, _, _ => none
  | m + 1, v3, v4 => p_s_WaitsOf__L1b x0  (fun v3 v4 => p_s_WaitsOf__L1 x0  m v3 v4) v3 v4

def p_s_WaitsOf (x0 : List GWave) : Option Int :=
  p_s_WaitsOf__L1 x0 FU 0 0

def p_i_WaitsOf_1 (x0 : GWave) : Option Bool :=
  if (!x0.ready) = true then (
    some (decide (x0.resp = 0)))
  else (
    some false)

def p_i_countOf__i_WaitsOf_1__L1b (x0 : List GWave)  (k : Int → Int → Option Int) (v5 : Int) (v10 : Int) : Option Int :=
  if decide (v10 < (x0.length : Int)) = true then (
    (idx x0 v10).bind fun a400 =>
    (p_i_WaitsOf_1 a400).bind fun r502 =>
    if r502 = true then (
      k (addW v5 1) (addW v10 1))
    else (
      k v5 (addW v10 1)))
  else (
    some v5)

def p_i_countOf__i_WaitsOf_1__L1 (x0 : List GWave)  : Nat → Int → Int → Option Int
  | 0, _, _ => none
  | m + 1, v5, v10 => p_i_countOf__i_WaitsOf_1__L1b x0  (fun v5 v10 => p_i_countOf__i_WaitsOf_1__L1 x0  m v5 v10) v5 v10

def p_i_countOf__i_WaitsOf_1 (x0 : List GWave) : Option Int :=
  p_i_countOf__i_WaitsOf_1__L1 x0 FU 0 0

def p_i_WaitsOf (x0 : List GWave) : Option Int :=
  (p_i_countOf__i_WaitsOf_1 x0).bind fun r101 =>
  some r101

def p_w_FnExactWaitsOf (x0 : List GWave) : Option Bool :=
  (p_w_szWaveS x0 1048576).bind fun r202 =>
  if decide (r202 < 0) = true then (
    some true)
  else (
    (p_w_toWaveS x0).bind fun r501 =>
    (p_s_WaitsOf r501).bind fun r502 =>
    (p_w_toWaveS x0).bind fun r601 =>
    (p_i_WaitsOf r601).bind fun r701 =>
    if decide (r701 ≠ r502) = true then (
      some false)
    else (
      (p_w_toWaveS x0).bind fun r1002 =>
      (p_w_eqWaveS r601 r1002).bind fun r1003 =>
      if (!r1003) = true then (
        some false)
      else (
        some true)))

def p_w_big (x0 : List Int) : Option Bool :=
  some (decide ((x0.length : Int) > 1048576))

def p_s_l1New__J2 (x0 : List Int) (k_L1 : Int → Int → Option GL1Cur) (v3 : Int) (v4 : Int) (v15 : Bool) : Option GL1Cur :=
  if v15 = true then (
    (idx x0 v4).bind fun a504 =>
    k_L1 (andW (addW (addW (mulW v3 131) (w64 a504)) 7) 1073741823) (addW v4 1))
  else (
    some (GL1Cur.mk x0 0 v3))

def p_s_l1New__L1b (x0 : List Int)  (k : Int → Int → Option GL1Cur) (v3 : Int) (v4 : Int) : Option GL1Cur :=
  if decide (v4 < (x0.length : Int)) = true then (
    p_s_l1New__J2 x0 k v3 v4 (decide (v4 < 4000)))
  else (
    p_s_l1New__J2 x0 k v3 v4 false)

def p_s_l1New__L1 (x0 : List Int)  : Nat → Int → Int → Option GL1Cur
  | 0, _, _ => none
  | m + 1, v3, v4 => p_s_l1New__L1b x0  (fun v3 v4 => p_s_l1New__L1 x0  m v3 v4) v3 v4

def p_s_l1New (x0 : List Int) : Option GL1Cur :=
  p_s_l1New__L1 x0 FU (addW 10101 (x0.length : Int)) 0

def p_s_l1Byte (x0 : GL1Cur) : Option (Int × GL1Cur) :=
  if decide (x0.i < (x0.b.length : Int)) = true then (
    (idx x0.b x0.i).bind fun a409 =>
    some ((andW (addW (andW (xorW (shrW (addW (mulW x0.h 6364136223846793005) 1442695040888963407) 33) (shrW (addW (mulW x0.h 6364136223846793005) 1442695040888963407) 45)) 255) (w64 a409)) 255), (GL1Cur.mk x0.b (addW x0.i 1) (addW (mulW x0.h 6364136223846793005) 1442695040888963407))))
  else (
    some ((andW (xorW (shrW (addW (mulW x0.h 6364136223846793005) 1442695040888963407) 33) (shrW (addW (mulW x0.h 6364136223846793005) 1442695040888963407) 45)) 255), (GL1Cur.mk x0.b x0.i (addW (mulW x0.h 6364136223846793005) 1442695040888963407))))

def p_s_l1Below (x0 : GL1Cur) (x1 : Int) : Option (Int × GL1Cur) :=
  if decide (x1 ≤ 0) = true then (
    some (0, x0))
  else (
    if decide (x1 ≤ 256) = true then (
      (p_s_l1Byte x0).bind fun r401 =>
      (nzI x1).bind fun n403 =>
      some ((remW r401.1 x1), r401.2))
    else (
      (p_s_l1Byte x0).bind fun r501 =>
      (p_s_l1Byte r501.2).bind fun r601 =>
      (p_s_l1Byte r601.2).bind fun r701 =>
      (p_s_l1Byte r701.2).bind fun r801 =>
      (nzI x1).bind fun n911 =>
      some ((remW (addW (addW (addW (mulW r501.1 16777216) (mulW r601.1 65536)) (mulW r701.1 256)) r801.1) x1), r801.2)))

def p_s_DrawApbOk (x0 : List Int) : Option GApb :=
  (p_s_l1New x0).bind fun r101 =>
  (p_s_l1Below r101 5).bind fun r201 =>
  (p_s_l1Below r201.2 6).bind fun r204 =>
  some (GApb.mk (subW r201.1 1) (subW r204.1 1))

def p_s_DrawApbTick (x0 : List Int) : Option GApb :=
  (p_s_DrawApbOk x0).bind fun r101 =>
  some r101

def p_i_within (x0 : Int) (x1 : Int) (x2 : Int) : Option Bool :=
  if decide (x1 ≤ x0) = true then (
    some (decide (x0 ≤ x2)))
  else (
    some false)

def p_i_ApbOk (x0 : GApb) : Option Bool :=
  if decide (x0.state = 0) = true then (
    some (decide (x0.left = 0)))
  else (
    if decide (x0.state = 1) = true then (
      (p_i_within x0.left 0 3).bind fun r602 =>
      some r602)
    else (
      if decide (x0.state = 2) = true then (
        (p_i_within x0.left 0 3).bind fun r602 =>
        some r602)
      else (
        some false)))

def p_i_ApbTick__J1 (x0 : GApb)  (v4 : Bool) : Option (GApb × Bool) :=
  if v4 = true then (
    some (x0, false))
  else (
    if decide (x0.state = 1) = true then (
      some ((GApb.mk 2 x0.left), false))
    else (
      if decide (x0.left > 0) = true then (
        some ((GApb.mk x0.state (subW x0.left 1)), false))
      else (
        some ((GApb.mk 0 0), true))))

def p_i_ApbTick (x0 : GApb) : Option (GApb × Bool) :=
  (p_i_ApbOk x0).bind fun r101 =>
  if (!r101) = true then (
    p_i_ApbTick__J1 x0 true)
  else (
    p_i_ApbTick__J1 x0 (decide (x0.state = 0)))

def p_s_l1In (x0 : Int) (x1 : Int) (x2 : Int) : Option Bool :=
  if decide (x0 ≥ x1) = true then (
    some (decide (x0 ≤ x2)))
  else (
    some false)

def p_s_ApbOk (x0 : GApb) : Option Bool :=
  if decide (x0.state = 0) = true then (
    some (decide (x0.left = 0)))
  else (
    if decide (x0.state = 1) = true then (
      (p_s_l1In x0.left 0 3).bind fun r602 =>
      some r602)
    else (
      if decide (x0.state = 2) = true then (
        (p_s_l1In x0.left 0 3).bind fun r602 =>
        some r602)
      else (
        some false)))

def p_s_ApbTick__J1 (x0 : GApb)  (v4 : Bool) : Option (GApb × Bool) :=
  if v4 = true then (
    some (x0, false))
  else (
    if decide (x0.state = 1) = true then (
      some ((GApb.mk 2 x0.left), false))
    else (
      if decide (x0.left > 0) = true then (
        some ((GApb.mk 2 (subW x0.left 1)), false))
      else (
        some ((GApb.mk 0 0), true))))

def p_s_ApbTick (x0 : GApb) : Option (GApb × Bool) :=
  (p_s_ApbOk x0).bind fun r101 =>
  if (!r101) = true then (
    p_s_ApbTick__J1 x0 true)
  else (
    p_s_ApbTick__J1 x0 (decide (x0.state = 0)))

def p_s_DrawApbStates (x0 : List Int) : Option Int :=
  (p_s_l1New x0).bind fun r101 =>
  (p_s_l1Below r101 6).bind fun r102 =>
  some (subW r102.1 1)

def p_i_ApbStart (x0 : Int) : Option GApb :=
  (p_i_within x0 0 3).bind fun r101 =>
  if (!r101) = true then (
    some (GApb.mk 0 0))
  else (
    some (GApb.mk 1 x0))

def p_i_ApbStates__L1b (x0 : Int)  (k : GApb → (List Int) → Option (List Int)) (vbox_1_1 : GApb) (v3 : List Int) : Option (List Int) :=
  if decide (vbox_1_1.state ≠ 0) = true then (
    (appI 8 v3 [vbox_1_1.state]).bind fun z504 =>
    (p_i_ApbTick vbox_1_1).bind fun r401 =>
    k r401.1 z504)
  else (
    some v3)

def p_i_ApbStates__L1 (x0 : Int)  : Nat → GApb → (List Int) → Option (List Int)
  | 0, _, _ => none
  | m + 1, vbox_1_1, v3 => p_i_ApbStates__L1b x0  (fun vbox_1_1 v3 => p_i_ApbStates__L1 x0  m vbox_1_1 v3) vbox_1_1 v3

def p_i_ApbStates (x0 : Int) : Option (List Int) :=
  (p_i_ApbStart x0).bind fun r201 =>
  p_i_ApbStates__L1 x0 FU r201 []

def p_w_FnPhases__L1b (x0 : List Int)  (k : Int → (List Int) → Int → Option Bool) (v8 : Int) (v9 : List Int) (v10 : Int) : Option Bool :=
  if decide (v10 < (v9.length : Int)) = true then (
    (idx v9 v10).bind fun a1502 =>
    if (decide (a1502 = 1) != decide (v10 = 0)) = true then (
      some false)
    else (
      if decide (a1502 = 0) = true then (
        some false)
      else (
        k v8 v9 (addW v10 1))))
  else (
    if decide ((v9.length : Int) = (addW v8 2)) = true then (
      (p_i_ApbStart v8).bind fun r1707 =>
      some (decide (r1707.left = v8)))
    else (
      some false))

def p_w_FnPhases__L1 (x0 : List Int)  : Nat → Int → (List Int) → Int → Option Bool
  | 0, _, _, _ => none
  | m + 1, v8, v9, v10 => p_w_FnPhases__L1b x0  (fun v8 v9 v10 => p_w_FnPhases__L1 x0  m v8 v9 v10) v8 v9 v10

def p_w_FnPhases__J3 (x0 : List Int)  (v8 : Int) (v9 : List Int) (v58 : Bool) : Option Bool :=
  if v58 = true then (
    some (decide ((v9.length : Int) = 0)))
  else (
    p_w_FnPhases__L1 x0 FU v8 v9 0)

def p_w_FnPhases__J2 (x0 : List Int)  (v8 : Int) (v9 : List Int) (v52 : Bool) : Option Bool :=
  if v52 = true then (
    some false)
  else (
    if decide (v8 < 0) = true then (
      p_w_FnPhases__J3 x0 v8 v9 true)
    else (
      p_w_FnPhases__J3 x0 v8 v9 (decide (v8 > 3))))

def p_w_FnPhases (x0 : List Int) : Option Bool :=
  (p_w_big x0).bind fun r101 =>
  if r101 = true then (
    some true)
  else (
    (p_s_DrawApbTick x0).bind fun r301 =>
    (p_i_ApbTick r301).bind fun r401 =>
    (p_s_ApbTick r301).bind fun r501 =>
    (p_s_DrawApbStates x0).bind fun r601 =>
    (p_i_ApbStates r601).bind fun r701 =>
    if (!(decide (r401.1.state = r501.1.state) && (decide (r401.1.left = r501.1.left) && true))) = true then (
      p_w_FnPhases__J2 x0 r601 r701 true)
    else (
      if (r401.2 != r501.2) = true then (
        p_w_FnPhases__J2 x0 r601 r701 true)
      else (
        (p_i_ApbOk r301).bind fun r810 =>
        (p_s_ApbOk r301).bind fun r812 =>
        if (r810 != r812) = true then (
          p_w_FnPhases__J2 x0 r601 r701 true)
        else (
          (p_i_ApbOk r301).bind fun r817 =>
          if r817 = true then (
            (p_i_ApbOk r401.1).bind fun r820 =>
            p_w_FnPhases__J2 x0 r601 r701 (!r820))
          else (
            p_w_FnPhases__J2 x0 r601 r701 false)))))

def p_s_ApbStart (x0 : Int) : Option GApb :=
  (p_s_l1In x0 0 3).bind fun r101 =>
  if (!r101) = true then (
    some (GApb.mk 0 0))
  else (
    some (GApb.mk 1 x0))

def p_s_ApbStates__L1b (x0 : Int)  (k : GApb → (List Int) → Option (List Int)) (vbox_1_1 : GApb) (v3 : List Int) : Option (List Int) :=
  if decide (vbox_1_1.state ≠ 0) = true then (
    (appI 8 v3 [vbox_1_1.state]).bind fun z404 =>
    (p_s_ApbTick vbox_1_1).bind fun r501 =>
    k r501.1 z404)
  else (
    some v3)

def p_s_ApbStates__L1 (x0 : Int)  : Nat → GApb → (List Int) → Option (List Int)
  | 0, _, _ => none
  | m + 1, vbox_1_1, v3 => p_s_ApbStates__L1b x0  (fun vbox_1_1 v3 => p_s_ApbStates__L1 x0  m vbox_1_1 v3) vbox_1_1 v3

def p_s_ApbStates (x0 : Int) : Option (List Int) :=
  (p_s_ApbStart x0).bind fun r201 =>
  p_s_ApbStates__L1 x0 FU r201 []

def p_w_eqIntS__L1b (x0 : List Int) (x1 : List Int)  (k : Int → Option Bool) (v5 : Int) : Option Bool :=
  if decide (v5 < (x0.length : Int)) = true then (
    (idx x0 v5).bind fun a602 =>
    (idx x1 v5).bind fun a606 =>
    if decide (a602 ≠ a606) = true then (
      some false)
    else (
      k (addW v5 1)))
  else (
    some true)

def p_w_eqIntS__L1 (x0 : List Int) (x1 : List Int)  : Nat → Int → Option Bool
  | 0, _ => none
  | m + 1, v5 => p_w_eqIntS__L1b x0 x1  (fun v5 => p_w_eqIntS__L1 x0 x1  m v5) v5

def p_w_eqIntS (x0 : List Int) (x1 : List Int) : Option Bool :=
  if decide ((x0.length : Int) ≠ (x1.length : Int)) = true then (
    some false)
  else (
    p_w_eqIntS__L1 x0 x1 FU 0)

def p_w_markIntS__L1b (x0 : List Int) (x1 : Int)  (k : Option (Int × List Int))  : Option (Int × List Int) :=
  if decide (0 < (x0.length : Int)) = true then (
    (idx x0 0).bind fun a403 =>
    none)
  else (
    some (x1, x0))

def p_w_markIntS__L1 (x0 : List Int) (x1 : Int)  : Nat → Option (Int × List Int)
  | 0 => none
  | m + 1 => p_w_markIntS__L1b x0 x1  (p_w_markIntS__L1 x0 x1  m) 

def p_w_markIntS (x0 : List Int) (x1 : Int) : Option (Int × List Int) :=
  p_w_markIntS__L1 x0 x1 FU

def p_w_heldIntS__L1b (x0 : List Int) (x1 : Int)  (k : Int → Int → Option Int) (v1 : Int) (v5 : Int) : Option Int :=
  if decide (v5 < (x0.length : Int)) = true then (
    (idx x0 v5).bind fun a402 =>
    if decide (a402 ≠ v1) = true then (
      some (-1))
    else (
      k (addW v1 1) (addW v5 1)))
  else (
    some v1)

def p_w_heldIntS__L1 (x0 : List Int) (x1 : Int)  : Nat → Int → Int → Option Int
  | 0, _, _ => none
  | m + 1, v1, v5 => p_w_heldIntS__L1b x0 x1  (fun v1 v5 => p_w_heldIntS__L1 x0 x1  m v1 v5) v1 v5

def p_w_heldIntS (x0 : List Int) (x1 : Int) : Option Int :=
  p_w_heldIntS__L1 x0 x1 FU x1 0

def p_w_markIntSq__L1b (x0 : List Int) (x1 : Int)  (k : (List Int) → Int → Int → Option (Int × List Int)) (vpers_0_0 : List Int) (v1 : Int) (v5 : Int) : Option (Int × List Int) :=
  if decide (v5 < (vpers_0_0.length : Int)) = true then (
    (idx vpers_0_0 v5).bind fun a403 =>
    (setO vpers_0_0 v5 v1).bind fun y404 =>
    k y404 (addW v1 1) (addW v5 1))
  else (
    (lenE x0 vpers_0_0).bind fun e0 =>
    some (v1, vpers_0_0))

def p_w_markIntSq__L1 (x0 : List Int) (x1 : Int)  : Nat → (List Int) → Int → Int → Option (Int × List Int)
  | 0, _, _, _ => none
  | m + 1, vpers_0_0, v1, v5 => p_w_markIntSq__L1b x0 x1  (fun vpers_0_0 v1 v5 => p_w_markIntSq__L1 x0 x1  m vpers_0_0 v1 v5) vpers_0_0 v1 v5

def p_w_markIntSq (x0 : List Int) (x1 : Int) : Option (Int × List Int) :=
  p_w_markIntSq__L1 x0 x1 FU x0 x1 0

def p_w_FnExactApbStates__J1 (x0 : Int)  (v3 : List Int) (v4 : List Int) (v5 : Int) : Option Bool :=
  (p_w_heldIntS v4 1).bind fun r802 =>
  if decide (r802 < 0) = true then (
    some false)
  else (
    if decide (r802 ≠ v5) = true then (
      some false)
    else (
      (p_i_ApbStates x0).bind fun r1301 =>
      (p_w_eqIntS r1301 v3).bind fun r1402 =>
      if (!r1402) = true then (
        some false)
      else (
        (p_w_heldIntS v4 1).bind fun r1702 =>
        if decide (r1702 < 0) = true then (
          some false)
        else (
          if decide (r1702 ≠ v5) = true then (
            some false)
          else (
            some true)))))

def p_w_FnExactApbStates (x0 : Int) : Option Bool :=
  (p_s_ApbStates x0).bind fun r101 =>
  (p_i_ApbStates x0).bind fun r201 =>
  (p_w_eqIntS r201 r101).bind fun r302 =>
  if (!r302) = true then (
    some false)
  else (
    if decide (r201.length = 0) = true then (
      (p_w_markIntS [] 1).bind fun r602 =>
      p_w_FnExactApbStates__J1 x0 r101 r201 r602.1)
    else (
      (p_w_markIntSq r201 1).bind fun r602 =>
      (lenE r201 r602.2).bind fun q3_1024 =>
      p_w_FnExactApbStates__J1 x0 r101 r602.2 r602.1))

def p_w_szDoneS (x0 : List GDone) (x1 : Int) : Option Int :=
  if decide ((subW x1 (x0.length : Int)) < 0) = true then (
    some (-1))
  else (
    some (subW x1 (x0.length : Int)))

def p_w_toDone (x0 : GDone) : Option GDone :=
  some x0

def p_w_toDoneS__L1b (x0 : List GDone)  (k : (List GDone) → Int → Option (List GDone)) (v3 : List GDone) (v4 : Int) : Option (List GDone) :=
  if decide (v4 < (x0.length : Int)) = true then (
    (idx x0 v4).bind fun a504 =>
    (p_w_toDone a504).bind fun r506 =>
    (idx v3 v4).bind fun a507 =>
    (setO v3 v4 r506).bind fun y508 =>
    k y508 (addW v4 1))
  else (
    some v3)

def p_w_toDoneS__L1 (x0 : List GDone)  : Nat → (List GDone) → Int → Option (List GDone)
  | 0, _, _ => none
  | m + 1, v3, v4 => p_w_toDoneS__L1b x0  (fun v3 v4 => p_w_toDoneS__L1 x0  m v3 v4) v3 v4

def p_w_toDoneS (x0 : List GDone) : Option (List GDone) :=
  (mkI 56 (x0.length : Int) (GDone.mk 0 0 false 0 0 0 0)).bind fun m102 =>
  p_w_toDoneS__L1 x0 FU m102 0

def p_s_ValuesOf__L1b (x0 : List GDone)  (k : (List Int) → Int → Option (List Int)) (v3 : List Int) (v4 : Int) : Option (List Int) :=
  if decide (v4 < (x0.length : Int)) = true then (
    (idx x0 v4).bind fun a503 =>
    (appI 8 v3 [a503.value]).bind fun z507 =>
    k z507 (addW v4 1))
  else (
    some v3)

def p_s_ValuesOf__L1 (x0 : List GDone)  : Nat → (List Int) → Int → Option (List Int)
  | 0, _, _ => none
  | m + 1, v3, v4 => p_s_ValuesOf__L1b x0  (fun v3 v4 => p_s_ValuesOf__L1 x0  m v3 v4) v3 v4

def p_s_ValuesOf (x0 : List GDone) : Option (List Int) :=
  p_s_ValuesOf__L1 x0 FU [] 0

def p_i_ValuesOf__L1b (x0 : List GDone)  (k : (List Int) → Int → Option (List Int)) (v3 : List Int) (v9 : Int) : Option (List Int) :=
  if decide (v9 < (x0.length : Int)) = true then (
    (idx x0 v9).bind fun a400 =>
    (appI 8 v3 [a400.value]).bind fun z504 =>
    k z504 (addW v9 1))
  else (
    some v3)

def p_i_ValuesOf__L1 (x0 : List GDone)  : Nat → (List Int) → Int → Option (List Int)
  | 0, _, _ => none
  | m + 1, v3, v9 => p_i_ValuesOf__L1b x0  (fun v3 v9 => p_i_ValuesOf__L1 x0  m v3 v9) v3 v9

def p_i_ValuesOf (x0 : List GDone) : Option (List Int) :=
  p_i_ValuesOf__L1 x0 FU [] 0

def p_w_eqDone (x0 : GDone) (x1 : GDone) : Option Bool :=
  if decide (x0.cycle ≠ x1.cycle) = true then (
    some false)
  else (
    if decide (x0.who ≠ x1.who) = true then (
      some false)
    else (
      if (x0.write != x1.write) = true then (
        some false)
      else (
        if decide (x0.addr ≠ x1.addr) = true then (
          some false)
        else (
          if decide (x0.size ≠ x1.size) = true then (
            some false)
          else (
            if decide (x0.value ≠ x1.value) = true then (
              some false)
            else (
              if decide (x0.resp ≠ x1.resp) = true then (
                some false)
              else (
                some true)))))))

def p_w_eqDoneS__L1b (x0 : List GDone) (x1 : List GDone)  (k : Int → Option Bool) (v5 : Int) : Option Bool :=
  if decide (v5 < (x0.length : Int)) = true then (
    (idx x0 v5).bind fun a602 =>
    (idx x1 v5).bind fun a606 =>
    (p_w_eqDone a602 a606).bind fun r608 =>
    if (!r608) = true then (
      some false)
    else (
      k (addW v5 1)))
  else (
    some true)

def p_w_eqDoneS__L1 (x0 : List GDone) (x1 : List GDone)  : Nat → Int → Option Bool
  | 0, _ => none
  | m + 1, v5 => p_w_eqDoneS__L1b x0 x1  (fun v5 => p_w_eqDoneS__L1 x0 x1  m v5) v5

def p_w_eqDoneS (x0 : List GDone) (x1 : List GDone) : Option Bool :=
  if decide ((x0.length : Int) ≠ (x1.length : Int)) = true then (
    some false)
  else (
    p_w_eqDoneS__L1 x0 x1 FU 0)

def p_w_markDoneS__L1b (x0 : List GDone) (x1 : Int)  (k : Option (Int × List GDone))  : Option (Int × List GDone) :=
  if decide (0 < (x0.length : Int)) = true then (
    (idx x0 0).bind fun a403 =>
    none)
  else (
    some (x1, x0))

def p_w_markDoneS__L1 (x0 : List GDone) (x1 : Int)  : Nat → Option (Int × List GDone)
  | 0 => none
  | m + 1 => p_w_markDoneS__L1b x0 x1  (p_w_markDoneS__L1 x0 x1  m) 

def p_w_markDoneS (x0 : List GDone) (x1 : Int) : Option (Int × List GDone) :=
  p_w_markDoneS__L1 x0 x1 FU

def p_w_markDoneSq__L1b (x0 : List GDone) (x1 : Int)  (k : (List GDone) → Int → Int → Option (Int × List GDone)) (vpers_0_0 : List GDone) (v1 : Int) (v5 : Int) : Option (Int × List GDone) :=
  if decide (v5 < (vpers_0_0.length : Int)) = true then (
    (idx vpers_0_0 v5).bind fun a403 =>
    (setO vpers_0_0 v5 (GDone.mk v1 a403.who a403.write a403.addr a403.size a403.value a403.resp)).bind fun y405 =>
    (idx y405 v5).bind fun a603 =>
    (setO y405 v5 (GDone.mk a603.cycle (addW v1 1) a603.write a603.addr a603.size a603.value a603.resp)).bind fun y605 =>
    (idx y605 v5).bind fun a805 =>
    (setO y605 v5 (GDone.mk a805.cycle a805.who (decide ((remW (addW (addW v1 1) 1) 3) = 0)) a805.addr a805.size a805.value a805.resp)).bind fun y807 =>
    (idx y807 v5).bind fun a1003 =>
    (setO y807 v5 (GDone.mk a1003.cycle a1003.who a1003.write (addW (addW (addW v1 1) 1) 1) a1003.size a1003.value a1003.resp)).bind fun y1005 =>
    (idx y1005 v5).bind fun a1203 =>
    (setO y1005 v5 (GDone.mk a1203.cycle a1203.who a1203.write a1203.addr (addW (addW (addW (addW v1 1) 1) 1) 1) a1203.value a1203.resp)).bind fun y1205 =>
    (idx y1205 v5).bind fun a1403 =>
    (setO y1205 v5 (GDone.mk a1403.cycle a1403.who a1403.write a1403.addr a1403.size (addW (addW (addW (addW (addW v1 1) 1) 1) 1) 1) a1403.resp)).bind fun y1405 =>
    (idx y1405 v5).bind fun a1603 =>
    (setO y1405 v5 (GDone.mk a1603.cycle a1603.who a1603.write a1603.addr a1603.size a1603.value (addW (addW (addW (addW (addW (addW v1 1) 1) 1) 1) 1) 1))).bind fun y1605 =>
    k y1605 (addW (addW (addW (addW (addW (addW (addW v1 1) 1) 1) 1) 1) 1) 1) (addW v5 1))
  else (
    (lenE x0 vpers_0_0).bind fun e0 =>
    some (v1, vpers_0_0))

def p_w_markDoneSq__L1 (x0 : List GDone) (x1 : Int)  : Nat → (List GDone) → Int → Int → Option (Int × List GDone)
  | 0, _, _, _ => none
  | m + 1, vpers_0_0, v1, v5 => p_w_markDoneSq__L1b x0 x1  (fun vpers_0_0 v1 v5 => p_w_markDoneSq__L1 x0 x1  m vpers_0_0 v1 v5) vpers_0_0 v1 v5

def p_w_markDoneSq (x0 : List GDone) (x1 : Int) : Option (Int × List GDone) :=
  p_w_markDoneSq__L1 x0 x1 FU x0 x1 0

def p_w_FnExactValuesOf__J3 (x0 : List GDone)  (v4 : List Int) (v6 : List Int) (v8 : Int) : Option Bool :=
  (p_w_heldIntS v6 1).bind fun r1902 =>
  if decide (r1902 < 0) = true then (
    some false)
  else (
    if decide (r1902 ≠ v8) = true then (
      some false)
    else (
      (p_w_toDoneS x0).bind fun r2401 =>
      (p_i_ValuesOf r2401).bind fun r2402 =>
      (p_w_eqIntS r2402 v4).bind fun r2502 =>
      if (!r2502) = true then (
        some false)
      else (
        (p_w_heldIntS v6 1).bind fun r2802 =>
        if decide (r2802 < 0) = true then (
          some false)
        else (
          if decide (r2802 ≠ v8) = true then (
            some false)
          else (
            some true)))))

def p_w_FnExactValuesOf__J2 (x0 : List GDone)  (v4 : List Int) (v6 : List Int) (v42 : Bool) : Option Bool :=
  if v42 = true then (
    some false)
  else (
    if decide (v6.length = 0) = true then (
      (p_w_markIntS [] 1).bind fun r1702 =>
      p_w_FnExactValuesOf__J3 x0 v4 v6 r1702.1)
    else (
      (p_w_markIntSq v6 1).bind fun r1702 =>
      (lenE v6 r1702.2).bind fun q1_2 =>
      p_w_FnExactValuesOf__J3 x0 v4 r1702.2 r1702.1))

def p_w_FnExactValuesOf__J1 (x0 : List GDone)  (v4 : List Int) (v6 : List Int) (v7 : Int) : Option Bool :=
  if decide (v7 < 0) = true then (
    p_w_FnExactValuesOf__J2 x0 v4 v6 true)
  else (
    (p_w_eqIntS v6 v4).bind fun r1405 =>
    p_w_FnExactValuesOf__J2 x0 v4 v6 (!r1405))

def p_w_FnExactValuesOf (x0 : List GDone) : Option Bool :=
  (p_w_szDoneS x0 1048576).bind fun r202 =>
  if decide (r202 < 0) = true then (
    some true)
  else (
    (p_w_toDoneS x0).bind fun r501 =>
    (p_s_ValuesOf r501).bind fun r502 =>
    (p_w_toDoneS x0).bind fun r601 =>
    (p_i_ValuesOf r601).bind fun r701 =>
    (p_w_eqIntS r701 r502).bind fun r802 =>
    if (!r802) = true then (
      some false)
    else (
      (p_w_toDoneS x0).bind fun r1002 =>
      (p_w_eqDoneS r601 r1002).bind fun r1003 =>
      if (!r1003) = true then (
        some false)
      else (
        if decide (r601.length = 0) = true then (
          (p_w_markDoneS [] 1).bind fun r1302 =>
          p_w_FnExactValuesOf__J1 x0 r502 r701 r1302.1)
        else (
          (p_w_markDoneSq r601 1).bind fun r1302 =>
          (lenE r601 r1302.2).bind fun q6_1024 =>
          p_w_FnExactValuesOf__J1 x0 r502 r701 r1302.1))))

def p_w_szIntS (x0 : List Int) (x1 : Int) : Option Int :=
  if decide ((subW x1 (x0.length : Int)) < 0) = true then (
    some (-1))
  else (
    some (subW x1 (x0.length : Int)))

def p_w_szReq (x0 : GReq) (x1 : Int) : Option Int :=
  (p_w_szIntS x0.data_ x1).bind fun r103 =>
  if decide (r103 < 0) = true then (
    some (-1))
  else (
    some r103)

def p_w_szPost (x0 : GPost) (x1 : Int) : Option Int :=
  (p_w_szReq x0.req x1).bind fun r103 =>
  if decide (r103 < 0) = true then (
    some (-1))
  else (
    some r103)

def p_w_szPostS__L1b (x0 : List GPost) (x1 : Int)  (k : Int → Int → Option Int) (v1 : Int) (v5 : Int) : Option Int :=
  if decide (v5 < (x0.length : Int)) = true then (
    (idx x0 v5).bind fun a702 =>
    (p_w_szPost a702 v1).bind fun r705 =>
    if decide (r705 < 0) = true then (
      some (-1))
    else (
      k r705 (addW v5 1)))
  else (
    some v1)

def p_w_szPostS__L1 (x0 : List GPost) (x1 : Int)  : Nat → Int → Int → Option Int
  | 0, _, _ => none
  | m + 1, v1, v5 => p_w_szPostS__L1b x0 x1  (fun v1 v5 => p_w_szPostS__L1 x0 x1  m v1 v5) v1 v5

def p_w_szPostS (x0 : List GPost) (x1 : Int) : Option Int :=
  if decide ((subW x1 (x0.length : Int)) < 0) = true then (
    some (-1))
  else (
    p_w_szPostS__L1 x0 x1 FU (subW x1 (x0.length : Int)) 0)

def p_w_szScript (x0 : GScript) (x1 : Int) : Option Int :=
  (p_w_szPostS x0.posts x1).bind fun r103 =>
  if decide (r103 < 0) = true then (
    some (-1))
  else (
    (p_w_szIntS x0.waits r103).bind fun r403 =>
    if decide (r403 < 0) = true then (
      some (-1))
    else (
      (p_w_szIntS x0.says r403).bind fun r703 =>
      if decide (r703 < 0) = true then (
        some (-1))
      else (
        some r703)))

def p_w_toIntS__L1b (x0 : List Int)  (k : (List Int) → Int → Option (List Int)) (v3 : List Int) (v4 : Int) : Option (List Int) :=
  if decide (v4 < (x0.length : Int)) = true then (
    (idx x0 v4).bind fun a504 =>
    (idx v3 v4).bind fun a506 =>
    (setO v3 v4 a504).bind fun y507 =>
    k y507 (addW v4 1))
  else (
    some v3)

def p_w_toIntS__L1 (x0 : List Int)  : Nat → (List Int) → Int → Option (List Int)
  | 0, _, _ => none
  | m + 1, v3, v4 => p_w_toIntS__L1b x0  (fun v3 v4 => p_w_toIntS__L1 x0  m v3 v4) v3 v4

def p_w_toIntS (x0 : List Int) : Option (List Int) :=
  (mkI 8 (x0.length : Int) 0).bind fun m102 =>
  p_w_toIntS__L1 x0 FU m102 0

def p_w_toReq (x0 : GReq) : Option GReq :=
  (p_w_toIntS x0.data_).bind fun r702 =>
  some (GReq.mk x0.write x0.addr x0.size x0.burst x0.lock r702)

def p_w_toPost (x0 : GPost) : Option GPost :=
  (p_w_toReq x0.req).bind fun r402 =>
  some (GPost.mk x0.at_ x0.who r402)

def p_w_toPostS__L1b (x0 : List GPost)  (k : (List GPost) → Int → Option (List GPost)) (v3 : List GPost) (v4 : Int) : Option (List GPost) :=
  if decide (v4 < (x0.length : Int)) = true then (
    (idx x0 v4).bind fun a504 =>
    (p_w_toPost a504).bind fun r506 =>
    (idx v3 v4).bind fun a507 =>
    (setO v3 v4 r506).bind fun y508 =>
    k y508 (addW v4 1))
  else (
    some v3)

def p_w_toPostS__L1 (x0 : List GPost)  : Nat → (List GPost) → Int → Option (List GPost)
  | 0, _, _ => none
  | m + 1, v3, v4 => p_w_toPostS__L1b x0  (fun v3 v4 => p_w_toPostS__L1 x0  m v3 v4) v3 v4

def p_w_toPostS (x0 : List GPost) : Option (List GPost) :=
  (mkI 80 (x0.length : Int) (GPost.mk 0 0 (GReq.mk false 0 0 0 false []))).bind fun m102 =>
  p_w_toPostS__L1 x0 FU m102 0

def p_w_toScript (x0 : GScript) : Option GScript :=
  (p_w_toPostS x0.posts).bind fun r202 =>
  (p_w_toIntS x0.waits).bind fun r302 =>
  (p_w_toIntS x0.says).bind fun r402 =>
  some (GScript.mk r202 r302 r402)

def p_s_LastPost__L1b (x0 : GScript)  (k : Int → Int → Option Int) (v3 : Int) (v4 : Int) : Option Int :=
  if decide (v4 < (x0.posts.length : Int)) = true then (
    (idx x0.posts v4).bind fun a504 =>
    k (maxI v3 a504.at_) (addW v4 1))
  else (
    some v3)

def p_s_LastPost__L1 (x0 : GScript)  : Nat → Int → Int → Option Int
  | 0, _, _ => none
  | m + 1, v3, v4 => p_s_LastPost__L1b x0  (fun v3 v4 => p_s_LastPost__L1 x0  m v3 v4) v3 v4

def p_s_LastPost (x0 : GScript) : Option Int :=
  p_s_LastPost__L1 x0 FU (-1) 0

def p_i_LastPost__L1b (x0 : GScript)  (k : Int → Int → Option Int) (v3 : Int) (v9 : Int) : Option Int :=
  if decide (v9 < (x0.posts.length : Int)) = true then (
    (idx x0.posts v9).bind fun a400 =>
    k (maxI v3 a400.at_) (addW v9 1))
  else (
    some v3)

def p_i_LastPost__L1 (x0 : GScript)  : Nat → Int → Int → Option Int
  | 0, _, _ => none
  | m + 1, v3, v9 => p_i_LastPost__L1b x0  (fun v3 v9 => p_i_LastPost__L1 x0  m v3 v9) v3 v9

def p_i_LastPost (x0 : GScript) : Option Int :=
  p_i_LastPost__L1 x0 FU (-1) 0

def p_w_eqReq (x0 : GReq) (x1 : GReq) : Option Bool :=
  if (x0.write != x1.write) = true then (
    some false)
  else (
    if decide (x0.addr ≠ x1.addr) = true then (
      some false)
    else (
      if decide (x0.size ≠ x1.size) = true then (
        some false)
      else (
        if decide (x0.burst ≠ x1.burst) = true then (
          some false)
        else (
          if (x0.lock != x1.lock) = true then (
            some false)
          else (
            (p_w_eqIntS x0.data_ x1.data_).bind fun r1104 =>
            if (!r1104) = true then (
              some false)
            else (
              some true))))))

def p_w_eqPost (x0 : GPost) (x1 : GPost) : Option Bool :=
  if decide (x0.at_ ≠ x1.at_) = true then (
    some false)
  else (
    if decide (x0.who ≠ x1.who) = true then (
      some false)
    else (
      (p_w_eqReq x0.req x1.req).bind fun r504 =>
      if (!r504) = true then (
        some false)
      else (
        some true)))

def p_w_eqPostS__L1b (x0 : List GPost) (x1 : List GPost)  (k : Int → Option Bool) (v5 : Int) : Option Bool :=
  if decide (v5 < (x0.length : Int)) = true then (
    (idx x0 v5).bind fun a602 =>
    (idx x1 v5).bind fun a606 =>
    (p_w_eqPost a602 a606).bind fun r608 =>
    if (!r608) = true then (
      some false)
    else (
      k (addW v5 1)))
  else (
    some true)

def p_w_eqPostS__L1 (x0 : List GPost) (x1 : List GPost)  : Nat → Int → Option Bool
  | 0, _ => none
  | m + 1, v5 => p_w_eqPostS__L1b x0 x1  (fun v5 => p_w_eqPostS__L1 x0 x1  m v5) v5

def p_w_eqPostS (x0 : List GPost) (x1 : List GPost) : Option Bool :=
  if decide ((x0.length : Int) ≠ (x1.length : Int)) = true then (
    some false)
  else (
    p_w_eqPostS__L1 x0 x1 FU 0)

def p_w_eqScript (x0 : GScript) (x1 : GScript) : Option Bool :=
  (p_w_eqPostS x0.posts x1.posts).bind fun r104 =>
  if (!r104) = true then (
    some false)
  else (
    (p_w_eqIntS x0.waits x1.waits).bind fun r304 =>
    if (!r304) = true then (
      some false)
    else (
      (p_w_eqIntS x0.says x1.says).bind fun r504 =>
      if (!r504) = true then (
        some false)
      else (
        some true)))

def p_w_FnExactLastPost (x0 : GScript) : Option Bool :=
  (p_w_szScript x0 1048576).bind fun r202 =>
  if decide (r202 < 0) = true then (
    some true)
  else (
    (p_w_toScript x0).bind fun r501 =>
    (p_s_LastPost r501).bind fun r502 =>
    (p_w_toScript x0).bind fun r601 =>
    (p_i_LastPost r601).bind fun r701 =>
    if decide (r701 ≠ r502) = true then (
      some false)
    else (
      (p_w_toScript x0).bind fun r1002 =>
      (p_w_eqScript r601 r1002).bind fun r1003 =>
      if (!r1003) = true then (
        some false)
      else (
        some true)))

def p_w_szMConfS (x0 : List GMConf) (x1 : Int) : Option Int :=
  if decide ((subW x1 (x0.length : Int)) < 0) = true then (
    some (-1))
  else (
    some (subW x1 (x0.length : Int)))

def p_w_szConf (x0 : GConf) (x1 : Int) : Option Int :=
  (p_w_szMConfS x0.masters x1).bind fun r103 =>
  if decide (r103 < 0) = true then (
    some (-1))
  else (
    some r103)

def p_w_toMConf (x0 : GMConf) : Option GMConf :=
  some x0

def p_w_toMConfS__L1b (x0 : List GMConf)  (k : (List GMConf) → Int → Option (List GMConf)) (v3 : List GMConf) (v4 : Int) : Option (List GMConf) :=
  if decide (v4 < (x0.length : Int)) = true then (
    (idx x0 v4).bind fun a504 =>
    (p_w_toMConf a504).bind fun r506 =>
    (idx v3 v4).bind fun a507 =>
    (setO v3 v4 r506).bind fun y508 =>
    k y508 (addW v4 1))
  else (
    some v3)

def p_w_toMConfS__L1 (x0 : List GMConf)  : Nat → (List GMConf) → Int → Option (List GMConf)
  | 0, _, _ => none
  | m + 1, v3, v4 => p_w_toMConfS__L1b x0  (fun v3 v4 => p_w_toMConfS__L1 x0  m v3 v4) v3 v4

def p_w_toMConfS (x0 : List GMConf) : Option (List GMConf) :=
  (mkI 32 (x0.length : Int) (GMConf.mk 0 false 0 0)).bind fun m102 =>
  p_w_toMConfS__L1 x0 FU m102 0

def p_w_toConf (x0 : GConf) : Option GConf :=
  (p_w_toMConfS x0.masters).bind fun r202 =>
  some (GConf.mk r202 x0.quantum x0.maxWait x0.maxRetry x0.maxSplit x0.lockMost)

def p_s_CostOf__J1 (x0 : GConf)  (v12 : Bool) : Option Int :=
  if v12 = true then (
    some 0)
  else (
    some (mulW (addW x0.maxRetry 2) (addW x0.maxWait 6)))

def p_s_CostOf (x0 : GConf) : Option Int :=
  (p_s_l1In x0.maxRetry 0 3).bind fun r102 =>
  if (!r102) = true then (
    p_s_CostOf__J1 x0 true)
  else (
    (p_s_l1In x0.maxWait 0 3).bind fun r107 =>
    p_s_CostOf__J1 x0 (!r107))

def p_s_SlotOf (x0 : GConf) : Option Int :=
  (p_s_CostOf x0).bind fun r101 =>
  if decide (r101 = 0) = true then (
    some 0)
  else (
    (p_s_l1In x0.lockMost 1 40).bind fun r106 =>
    if (!r106) = true then (
      some 0)
    else (
      (p_s_CostOf x0).bind fun r301 =>
      some (addW (mulW 2 r301) x0.lockMost)))

def p_s_l6Limits (x0 : GConf) : Option Bool :=
  (p_s_l1In x0.quantum 1 4).bind fun r102 =>
  if r102 = true then (
    (p_s_CostOf x0).bind fun r105 =>
    if decide (r105 > 0) = true then (
      (p_s_l1In x0.maxSplit 1 12).bind fun r111 =>
      if r111 = true then (
        (p_s_l1In x0.lockMost 1 40).bind fun r116 =>
        some r116)
      else (
        some false))
    else (
      some false))
  else (
    some false)

def p_s_ConfOk__L2b (x0 : GConf)  (k : Int → Int → Option Bool) (v3 : Int) (v5 : Int) : Option Bool :=
  if decide (v5 < (x0.masters.length : Int)) = true then (
    (idx x0.masters v5).bind fun a1003 =>
    (p_s_l1In a1003.weight 1 4).bind fun r1102 =>
    if (!r1102) = true then (
      some false)
    else (
      if (!a1003.prio) = true then (
        if decide (a1003.every ≠ 0) = true then (
          some false)
        else (
          if decide (a1003.cap ≠ 0) = true then (
            some false)
          else (
            if a1003.prio = true then (
              (p_s_SlotOf x0).bind fun r1128 =>
              (p_s_l1In a1003.every (mulW (mulW 2 v3) r1128) 1000).bind fun r1130 =>
              if (!r1130) = true then (
                some false)
              else (
                (p_s_l1In a1003.cap 1 8).bind fun r1135 =>
                if (!r1135) = true then (
                  some false)
                else (
                  k v3 (addW v5 1))))
            else (
              k v3 (addW v5 1)))))
      else (
        if a1003.prio = true then (
          (p_s_SlotOf x0).bind fun r1128 =>
          (p_s_l1In a1003.every (mulW (mulW 2 v3) r1128) 1000).bind fun r1130 =>
          if (!r1130) = true then (
            some false)
          else (
            (p_s_l1In a1003.cap 1 8).bind fun r1135 =>
            if (!r1135) = true then (
              some false)
            else (
              k v3 (addW v5 1))))
        else (
          k v3 (addW v5 1)))))
  else (
    (p_s_l1In (x0.masters.length : Int) 1 4).bind fun r1303 =>
    if r1303 = true then (
      (p_s_l6Limits x0).bind fun r1306 =>
      some r1306)
    else (
      some false))

def p_s_ConfOk__L2 (x0 : GConf)  : Nat → Int → Int → Option Bool
  | 0, _, _ => none
  | m + 1, v3, v5 => p_s_ConfOk__L2b x0  (fun v3 v5 => p_s_ConfOk__L2 x0  m v3 v5) v3 v5

def p_s_ConfOk__L1b (x0 : GConf)  (k : Int → Int → Option Bool) (v3 : Int) (v4 : Int) : Option Bool :=
  if decide (v4 < (x0.masters.length : Int)) = true then (
    (idx x0.masters v4).bind fun a503 =>
    if a503.prio = true then (
      k (addW v3 1) (addW v4 1))
    else (
      k v3 (addW v4 1)))
  else (
    p_s_ConfOk__L2 x0 FU v3 0)

def p_s_ConfOk__L1 (x0 : GConf)  : Nat → Int → Int → Option Bool
  | 0, _, _ => none
  | m + 1, v3, v4 => p_s_ConfOk__L1b x0  (fun v3 v4 => p_s_ConfOk__L1 x0  m v3 v4) v3 v4

def p_s_ConfOk (x0 : GConf) : Option Bool :=
  p_s_ConfOk__L1 x0 FU 0 0

def p_s_TurnOf__J1 (x0 : GConf) (x1 : Int)  (v16 : Bool) : Option Int :=
  if v16 = true then (
    some 0)
  else (
    (idx x0.masters x1).bind fun a303 =>
    some (mulW a303.weight x0.quantum))

def p_s_TurnOf (x0 : GConf) (x1 : Int) : Option Int :=
  (p_s_ConfOk x0).bind fun r101 =>
  if (!r101) = true then (
    p_s_TurnOf__J1 x0 x1 true)
  else (
    (p_s_l1In x1 0 (subW (x0.masters.length : Int) 1)).bind fun r109 =>
    p_s_TurnOf__J1 x0 x1 (!r109))

def p_s_SpreadMost__J1 (x0 : GConf) (x1 : Int) (x2 : Int)  (v16 : Bool) : Option Int :=
  if v16 = true then (
    some 0)
  else (
    (p_s_TurnOf x0 x1).bind fun r302 =>
    (idx x0.masters x2).bind fun a306 =>
    (idx x0.masters x1).bind fun a313 =>
    some (addW (addW (mulW r302 a306.weight) a313.weight) a306.weight))

def p_s_SpreadMost (x0 : GConf) (x1 : Int) (x2 : Int) : Option Int :=
  (p_s_TurnOf x0 x1).bind fun r102 =>
  if decide (r102 = 0) = true then (
    p_s_SpreadMost__J1 x0 x1 x2 true)
  else (
    (p_s_TurnOf x0 x2).bind fun r107 =>
    p_s_SpreadMost__J1 x0 x1 x2 (decide (r107 = 0)))

def p_i_CostOf__J1 (x0 : GConf)  (v12 : Bool) : Option Int :=
  if v12 = true then (
    some 0)
  else (
    some (mulW (addW x0.maxRetry 2) (addW x0.maxWait 6)))

def p_i_CostOf (x0 : GConf) : Option Int :=
  (p_i_within x0.maxRetry 0 3).bind fun r102 =>
  if (!r102) = true then (
    p_i_CostOf__J1 x0 true)
  else (
    (p_i_within x0.maxWait 0 3).bind fun r107 =>
    p_i_CostOf__J1 x0 (!r107))

def p_i_SlotOf (x0 : GConf) : Option Int :=
  (p_i_CostOf x0).bind fun r101 =>
  if decide (r101 = 0) = true then (
    some 0)
  else (
    (p_i_within x0.lockMost 1 40).bind fun r106 =>
    if (!r106) = true then (
      some 0)
    else (
      (p_i_CostOf x0).bind fun r301 =>
      some (addW (mulW 2 r301) x0.lockMost)))

def p_i_prios__L1b (x0 : GConf)  (k : Int → Int → Option Int) (v3 : Int) (v9 : Int) : Option Int :=
  if decide (v9 < (x0.masters.length : Int)) = true then (
    (idx x0.masters v9).bind fun a400 =>
    if a400.prio = true then (
      k (addW v3 1) (addW v9 1))
    else (
      k v3 (addW v9 1)))
  else (
    some v3)

def p_i_prios__L1 (x0 : GConf)  : Nat → Int → Int → Option Int
  | 0, _, _ => none
  | m + 1, v3, v9 => p_i_prios__L1b x0  (fun v3 v9 => p_i_prios__L1 x0  m v3 v9) v3 v9

def p_i_prios (x0 : GConf) : Option Int :=
  p_i_prios__L1 x0 FU 0 0

def p_i_LeastEvery (x0 : GConf) : Option Int :=
  (p_i_SlotOf x0).bind fun r101 =>
  (p_i_prios x0).bind fun r104 =>
  some (mulW (mulW 2 r101) r104)

def p_i_ConfOk_1 (x0 : GMConf) (x1 : GConf) : Option Bool :=
  (p_i_within x0.weight 1 4).bind fun r102 =>
  if (!r102) = true then (
    some true)
  else (
    if x0.prio = true then (
      (p_i_LeastEvery x1).bind fun r403 =>
      (p_i_within x0.every r403 1000).bind fun r404 =>
      if (!r404) = true then (
        some true)
      else (
        (p_i_within x0.cap 1 8).bind fun r409 =>
        some (!r409)))
    else (
      if decide (x0.every ≠ 0) = true then (
        some true)
      else (
        some (decide (x0.cap ≠ 0)))))

def p_slices_IndexFunc_MConf_MConf__i_ConfOk_1__L1b (x0 : List GMConf) (x1c0 : GConf)  (k : Int → Option Int) (v8 : Int) : Option Int :=
  if decide (v8 < (x0.length : Int)) = true then (
    (idx x0 v8).bind fun a403 =>
    (p_i_ConfOk_1 a403 x1c0).bind fun r405 =>
    if r405 = true then (
      some v8)
    else (
      k (addW v8 1)))
  else (
    some (-1))

def p_slices_IndexFunc_MConf_MConf__i_ConfOk_1__L1 (x0 : List GMConf) (x1c0 : GConf)  : Nat → Int → Option Int
  | 0, _ => none
  | m + 1, v8 => p_slices_IndexFunc_MConf_MConf__i_ConfOk_1__L1b x0 x1c0  (fun v8 => p_slices_IndexFunc_MConf_MConf__i_ConfOk_1__L1 x0 x1c0  m v8) v8

def p_slices_IndexFunc_MConf_MConf__i_ConfOk_1 (x0 : List GMConf) (x1c0 : GConf) : Option Int :=
  p_slices_IndexFunc_MConf_MConf__i_ConfOk_1__L1 x0 x1c0 FU 0

def p_slices_ContainsFunc_MConf_MConf__i_ConfOk_1 (x0 : List GMConf) (x1c0 : GConf) : Option Bool :=
  (p_slices_IndexFunc_MConf_MConf__i_ConfOk_1 x0 x1c0).bind fun r102 =>
  some (decide (r102 ≥ 0))

def p_i_ConfOk (x0 : GConf) : Option Bool :=
  (p_i_within (x0.masters.length : Int) 1 4).bind fun r103 =>
  if (!r103) = true then (
    some false)
  else (
    (p_i_within x0.quantum 1 4).bind fun r108 =>
    if (!r108) = true then (
      some false)
    else (
      (p_i_within x0.maxSplit 1 12).bind fun r114 =>
      if (!r114) = true then (
        some false)
      else (
        (p_i_SlotOf x0).bind fun r119 =>
        if decide (r119 = 0) = true then (
          some false)
        else (
          (p_slices_ContainsFunc_MConf_MConf__i_ConfOk_1 x0.masters x0).bind fun r303 =>
          some (!r303)))))

def p_i_isMaster (x0 : GConf) (x1 : Int) : Option Bool :=
  (p_i_within x1 0 (subW (x0.masters.length : Int) 1)).bind fun r105 =>
  some r105

def p_i_TurnOf__J1 (x0 : GConf) (x1 : Int)  (v13 : Bool) : Option Int :=
  if v13 = true then (
    some 0)
  else (
    (idx x0.masters x1).bind fun a303 =>
    some (mulW a303.weight x0.quantum))

def p_i_TurnOf (x0 : GConf) (x1 : Int) : Option Int :=
  (p_i_ConfOk x0).bind fun r101 =>
  if (!r101) = true then (
    p_i_TurnOf__J1 x0 x1 true)
  else (
    (p_i_isMaster x0 x1).bind fun r106 =>
    p_i_TurnOf__J1 x0 x1 (!r106))

def p_i_areTurns (x0 : GConf) (x1 : Int) (x2 : Int) : Option Bool :=
  (p_i_TurnOf x0 x1).bind fun r102 =>
  if decide (r102 > 0) = true then (
    (p_i_TurnOf x0 x2).bind fun r107 =>
    some (decide (r107 > 0)))
  else (
    some false)

def p_i_SpreadMost (x0 : GConf) (x1 : Int) (x2 : Int) : Option Int :=
  (p_i_areTurns x0 x1 x2).bind fun r103 =>
  if (!r103) = true then (
    some 0)
  else (
    (p_i_TurnOf x0 x1).bind fun r302 =>
    (idx x0.masters x2).bind fun a306 =>
    (idx x0.masters x1).bind fun a313 =>
    some (addW (addW (mulW r302 a306.weight) a313.weight) a306.weight))

def p_w_eqMConf (x0 : GMConf) (x1 : GMConf) : Option Bool :=
  if decide (x0.weight ≠ x1.weight) = true then (
    some false)
  else (
    if (x0.prio != x1.prio) = true then (
      some false)
    else (
      if decide (x0.every ≠ x1.every) = true then (
        some false)
      else (
        if decide (x0.cap ≠ x1.cap) = true then (
          some false)
        else (
          some true))))

def p_w_eqMConfS__L1b (x0 : List GMConf) (x1 : List GMConf)  (k : Int → Option Bool) (v5 : Int) : Option Bool :=
  if decide (v5 < (x0.length : Int)) = true then (
    (idx x0 v5).bind fun a602 =>
    (idx x1 v5).bind fun a606 =>
    (p_w_eqMConf a602 a606).bind fun r608 =>
    if (!r608) = true then (
      some false)
    else (
      k (addW v5 1)))
  else (
    some true)

def p_w_eqMConfS__L1 (x0 : List GMConf) (x1 : List GMConf)  : Nat → Int → Option Bool
  | 0, _ => none
  | m + 1, v5 => p_w_eqMConfS__L1b x0 x1  (fun v5 => p_w_eqMConfS__L1 x0 x1  m v5) v5

def p_w_eqMConfS (x0 : List GMConf) (x1 : List GMConf) : Option Bool :=
  if decide ((x0.length : Int) ≠ (x1.length : Int)) = true then (
    some false)
  else (
    p_w_eqMConfS__L1 x0 x1 FU 0)

def p_w_eqConf (x0 : GConf) (x1 : GConf) : Option Bool :=
  (p_w_eqMConfS x0.masters x1.masters).bind fun r104 =>
  if (!r104) = true then (
    some false)
  else (
    if decide (x0.quantum ≠ x1.quantum) = true then (
      some false)
    else (
      if decide (x0.maxWait ≠ x1.maxWait) = true then (
        some false)
      else (
        if decide (x0.maxRetry ≠ x1.maxRetry) = true then (
          some false)
        else (
          if decide (x0.maxSplit ≠ x1.maxSplit) = true then (
            some false)
          else (
            if decide (x0.lockMost ≠ x1.lockMost) = true then (
              some false)
            else (
              some true))))))

def p_w_FnExactSpreadMost (x0 : GConf) (x1 : Int) (x2 : Int) : Option Bool :=
  (p_w_szConf x0 1048576).bind fun r202 =>
  if decide (r202 < 0) = true then (
    some true)
  else (
    (p_w_toConf x0).bind fun r501 =>
    (p_s_SpreadMost r501 x1 x2).bind fun r504 =>
    (p_w_toConf x0).bind fun r601 =>
    (p_i_SpreadMost r601 x1 x2).bind fun r703 =>
    if decide (r703 ≠ r504) = true then (
      some false)
    else (
      (p_w_toConf x0).bind fun r1002 =>
      (p_w_eqConf r601 r1002).bind fun r1003 =>
      if (!r1003) = true then (
        some false)
      else (
        some true)))

def p_s_l5Ints__L1b (x0 : List Int) (x1 : List Int)  (k : Int → Option Bool) (v5 : Int) : Option Bool :=
  if decide (v5 < (x0.length : Int)) = true then (
    (idx x0 v5).bind fun a602 =>
    (idx x1 v5).bind fun a606 =>
    if decide (a602 ≠ a606) = true then (
      some false)
    else (
      k (addW v5 1)))
  else (
    some true)

def p_s_l5Ints__L1 (x0 : List Int) (x1 : List Int)  : Nat → Int → Option Bool
  | 0, _ => none
  | m + 1, v5 => p_s_l5Ints__L1b x0 x1  (fun v5 => p_s_l5Ints__L1 x0 x1  m v5) v5

def p_s_l5Ints (x0 : List Int) (x1 : List Int) : Option Bool :=
  if decide ((x0.length : Int) ≠ (x1.length : Int)) = true then (
    some false)
  else (
    p_s_l5Ints__L1 x0 x1 FU 0)

def p_s_SameReq (x0 : GReq) (x1 : GReq) : Option Bool :=
  if (x0.write == x1.write) = true then (
    if decide (x0.addr = x1.addr) = true then (
      if decide (x0.size = x1.size) = true then (
        if decide (x0.burst = x1.burst) = true then (
          if (x0.lock == x1.lock) = true then (
            (p_s_l5Ints x0.data_ x1.data_).bind fun r138 =>
            some r138)
          else (
            some false))
        else (
          some false))
      else (
        some false))
    else (
      some false))
  else (
    some false)

def p_s_SameScript__L1b (x0 : GScript) (x1 : GScript)  (k : Int → Option Bool) (v5 : Int) : Option Bool :=
  if decide (v5 < (x0.posts.length : Int)) = true then (
    (idx x0.posts v5).bind fun a603 =>
    (idx x1.posts v5).bind fun a609 =>
    if decide (a603.at_ ≠ a609.at_) = true then (
      some false)
    else (
      if decide (a603.who ≠ a609.who) = true then (
        some false)
      else (
        (p_s_SameReq a603.req a609.req).bind fun r641 =>
        if (!r641) = true then (
          some false)
        else (
          k (addW v5 1)))))
  else (
    some true)

def p_s_SameScript__L1 (x0 : GScript) (x1 : GScript)  : Nat → Int → Option Bool
  | 0, _ => none
  | m + 1, v5 => p_s_SameScript__L1b x0 x1  (fun v5 => p_s_SameScript__L1 x0 x1  m v5) v5

def p_s_SameScript__J2 (x0 : GScript) (x1 : GScript)  (v28 : Bool) : Option Bool :=
  if v28 = true then (
    some false)
  else (
    p_s_SameScript__L1 x0 x1 FU 0)

def p_s_SameScript (x0 : GScript) (x1 : GScript) : Option Bool :=
  (p_s_l5Ints x0.waits x1.waits).bind fun r104 =>
  if (!r104) = true then (
    p_s_SameScript__J2 x0 x1 true)
  else (
    (p_s_l5Ints x0.says x1.says).bind fun r111 =>
    if (!r111) = true then (
      p_s_SameScript__J2 x0 x1 true)
    else (
      p_s_SameScript__J2 x0 x1 (decide ((x0.posts.length : Int) ≠ (x1.posts.length : Int)))))

def p_slices_Equal_int_int__L1b (x0 : List Int) (x1 : List Int)  (k : Int → Option Bool) (v13 : Int) : Option Bool :=
  if decide (v13 < (x0.length : Int)) = true then (
    (idx x0 v13).bind fun a602 =>
    (idx x1 v13).bind fun a606 =>
    if decide (a602 ≠ a606) = true then (
      some false)
    else (
      k (addW v13 1)))
  else (
    some true)

def p_slices_Equal_int_int__L1 (x0 : List Int) (x1 : List Int)  : Nat → Int → Option Bool
  | 0, _ => none
  | m + 1, v13 => p_slices_Equal_int_int__L1b x0 x1  (fun v13 => p_slices_Equal_int_int__L1 x0 x1  m v13) v13

def p_slices_Equal_int_int (x0 : List Int) (x1 : List Int) : Option Bool :=
  if decide ((x0.length : Int) ≠ (x1.length : Int)) = true then (
    some false)
  else (
    p_slices_Equal_int_int__L1 x0 x1 FU 0)

def p_i_SameReq (x0 : GReq) (x1 : GReq) : Option Bool :=
  if (x0.write == x1.write) = true then (
    if decide (x0.addr = x1.addr) = true then (
      if decide (x0.size = x1.size) = true then (
        if decide (x0.burst = x1.burst) = true then (
          if (x0.lock == x1.lock) = true then (
            (p_slices_Equal_int_int x0.data_ x1.data_).bind fun r138 =>
            some r138)
          else (
            some false))
        else (
          some false))
      else (
        some false))
    else (
      some false))
  else (
    some false)

def p_i_SameScript_1 (x0 : GPost) (x1 : GPost) : Option Bool :=
  if decide (x0.at_ = x1.at_) = true then (
    if decide (x0.who = x1.who) = true then (
      (p_i_SameReq x0.req x1.req).bind fun r117 =>
      some r117)
    else (
      some false))
  else (
    some false)

def p_slices_EqualFunc_Post_Post_Post_Post__i_SameScript_1__L1b (x0 : List GPost) (x1 : List GPost)  (k : Int → Option Bool) (v17 : Int) : Option Bool :=
  if decide (v17 < (x0.length : Int)) = true then (
    (idx x0 v17).bind fun a501 =>
    (idx x1 v17).bind fun a602 =>
    (p_i_SameScript_1 a501 a602).bind fun r703 =>
    if (!r703) = true then (
      some false)
    else (
      k (addW v17 1)))
  else (
    some true)

def p_slices_EqualFunc_Post_Post_Post_Post__i_SameScript_1__L1 (x0 : List GPost) (x1 : List GPost)  : Nat → Int → Option Bool
  | 0, _ => none
  | m + 1, v17 => p_slices_EqualFunc_Post_Post_Post_Post__i_SameScript_1__L1b x0 x1  (fun v17 => p_slices_EqualFunc_Post_Post_Post_Post__i_SameScript_1__L1 x0 x1  m v17) v17

def p_slices_EqualFunc_Post_Post_Post_Post__i_SameScript_1 (x0 : List GPost) (x1 : List GPost) : Option Bool :=
  if decide ((x0.length : Int) ≠ (x1.length : Int)) = true then (
    some false)
  else (
    p_slices_EqualFunc_Post_Post_Post_Post__i_SameScript_1__L1 x0 x1 FU 0)

def p_i_SameScript (x0 : GScript) (x1 : GScript) : Option Bool :=
  (p_slices_Equal_int_int x0.waits x1.waits).bind fun r104 =>
  if r104 = true then (
    (p_slices_Equal_int_int x0.says x1.says).bind fun r110 =>
    if r110 = true then (
      (p_slices_EqualFunc_Post_Post_Post_Post__i_SameScript_1 x0.posts x1.posts).bind fun r117 =>
      some r117)
    else (
      some false))
  else (
    some false)

def p_w_FnExactSameScript (x0 : GScript) (x1 : GScript) : Option Bool :=
  (p_w_szScript x0 1048576).bind fun r202 =>
  if decide (r202 < 0) = true then (
    some true)
  else (
    (p_w_szScript x1 r202).bind fun r502 =>
    if decide (r502 < 0) = true then (
      some true)
    else (
      (p_w_toScript x0).bind fun r801 =>
      (p_w_toScript x1).bind fun r803 =>
      (p_s_SameScript r801 r803).bind fun r804 =>
      (p_w_toScript x0).bind fun r901 =>
      (p_w_toScript x1).bind fun r1001 =>
      (p_i_SameScript r901 r1001).bind fun r1102 =>
      if (r1102 != r804) = true then (
        some false)
      else (
        (p_w_toScript x0).bind fun r1402 =>
        (p_w_eqScript r901 r1402).bind fun r1403 =>
        if (!r1403) = true then (
          some false)
        else (
          (p_w_toScript x1).bind fun r1602 =>
          (p_w_eqScript r1001 r1602).bind fun r1603 =>
          if (!r1603) = true then (
            some false)
          else (
            some true)))))

def p_s_l1Once (x0 : GL1Cur) (x1 : Int) : Option (Bool × GL1Cur) :=
  (p_s_l1Below x0 x1).bind fun r102 =>
  some (decide (r102.1 = 0), r102.2)

def p_s_l6Conf__L1b (x0 : GL1Cur)  (k : GL1Cur → GConf → Int → Option (GConf × GL1Cur)) (vbox_0_63 : GL1Cur) (vbox_1_3 : GConf) (v4 : Int) : Option (GConf × GL1Cur) :=
  if decide (v4 > 0) = true then (
    (p_s_l1Below vbox_0_63 3).bind fun r503 =>
    (appI 32 vbox_1_3.masters [(GMConf.mk (addW 1 r503.1) false 0 0)]).bind fun z507 =>
    k r503.2 (GConf.mk z507 vbox_1_3.quantum vbox_1_3.maxWait vbox_1_3.maxRetry vbox_1_3.maxSplit vbox_1_3.lockMost) (subW v4 1))
  else (
    (p_s_l1Once vbox_0_63 2).bind fun r601 =>
    if r601.1 = true then (
      (p_s_l1Below r601.2 (vbox_1_3.masters.length : Int)).bind fun r704 =>
      (idx vbox_1_3.masters r704.1).bind fun a803 =>
      (setO vbox_1_3.masters r704.1 (GMConf.mk a803.weight true a803.every a803.cap)).bind fun y805 =>
      (p_s_SlotOf (GConf.mk y805 vbox_1_3.quantum vbox_1_3.maxWait vbox_1_3.maxRetry vbox_1_3.maxSplit vbox_1_3.lockMost)).bind fun r904 =>
      (p_s_l1Below r704.2 30).bind fun r907 =>
      (idx y805 r704.1).bind fun a909 =>
      (setO y805 r704.1 (GMConf.mk a909.weight a909.prio (addW (mulW 2 r904) r907.1) a909.cap)).bind fun y911 =>
      (p_s_l1Below r907.2 4).bind fun r1004 =>
      (idx y911 r704.1).bind fun a1006 =>
      (setO y911 r704.1 (GMConf.mk a1006.weight a1006.prio a1006.every (addW 1 r1004.1))).bind fun y1008 =>
      some ((GConf.mk y1008 vbox_1_3.quantum vbox_1_3.maxWait vbox_1_3.maxRetry vbox_1_3.maxSplit vbox_1_3.lockMost), r1004.2))
    else (
      some (vbox_1_3, r601.2)))

def p_s_l6Conf__L1 (x0 : GL1Cur)  : Nat → GL1Cur → GConf → Int → Option (GConf × GL1Cur)
  | 0, _, _, _ => none
  | m + 1, vbox_0_63, vbox_1_3, v4 => p_s_l6Conf__L1b x0  (fun vbox_0_63 vbox_1_3 v4 => p_s_l6Conf__L1 x0  m vbox_0_63 vbox_1_3 v4) vbox_0_63 vbox_1_3 v4

def p_s_l6Conf (x0 : GL1Cur) : Option (GConf × GL1Cur) :=
  (p_s_l1Below x0 3).bind fun r101 =>
  (p_s_l1Below r101.2 3).bind fun r104 =>
  (p_s_l1Below r104.2 3).bind fun r106 =>
  (p_s_l1Below r106.2 6).bind fun r108 =>
  (p_s_l1Below r108.2 12).bind fun r111 =>
  (p_s_l1Below r111.2 4).bind fun r201 =>
  p_s_l6Conf__L1 x0 FU r201.2 (GConf.mk [] (addW 1 r101.1) r104.1 r106.1 (addW 1 r108.1) (addW 1 r111.1)) (addW 1 r201.1)

def p_s_l1PickInt (x0 : GL1Cur) (x1 : List Int) : Option (Int × GL1Cur) :=
  (p_s_l1Below x0 (x1.length : Int)).bind fun r104 =>
  (idx x1 r104.1).bind fun a105 =>
  some (a105, r104.2)

def p_s_l6Any (x0 : GL1Cur) : Option (GConf × GL1Cur) :=
  (p_s_l6Conf x0).bind fun r101 =>
  (p_s_l1Below r101.2 14).bind fun r201 =>
  if decide (r201.1 = 0) = true then (
    (p_s_l1PickInt r201.2 [0, 5]).bind fun r404 =>
    (idx r101.1.masters 0).bind fun a405 =>
    (setO r101.1.masters 0 (GMConf.mk r404.1 a405.prio a405.every a405.cap)).bind fun y407 =>
    some ((GConf.mk y407 r101.1.quantum r101.1.maxWait r101.1.maxRetry r101.1.maxSplit r101.1.lockMost), r404.2))
  else (
    if decide (r201.1 = 1) = true then (
      (idx r101.1.masters 0).bind fun a604 =>
      (setO r101.1.masters 0 (GMConf.mk a604.weight (!a604.prio) a604.every a604.cap)).bind fun y610 =>
      some ((GConf.mk y610 r101.1.quantum r101.1.maxWait r101.1.maxRetry r101.1.maxSplit r101.1.lockMost), r201.2))
    else (
      if decide (r201.1 = 2) = true then (
        (p_s_l1PickInt r201.2 [0, 5, 4]).bind fun r802 =>
        some ((GConf.mk r101.1.masters r802.1 r101.1.maxWait r101.1.maxRetry r101.1.maxSplit r101.1.lockMost), r802.2))
      else (
        if decide (r201.1 = 3) = true then (
          (p_s_l1PickInt r201.2 [(-1), 4, 3]).bind fun r1002 =>
          some ((GConf.mk r101.1.masters r101.1.quantum r1002.1 r101.1.maxRetry r101.1.maxSplit r101.1.lockMost), r1002.2))
        else (
          if decide (r201.1 = 4) = true then (
            (p_s_l1PickInt r201.2 [0, 13]).bind fun r1202 =>
            some ((GConf.mk r101.1.masters r101.1.quantum r101.1.maxWait r101.1.maxRetry r1202.1 r101.1.lockMost), r1202.2))
          else (
            if decide (r201.1 = 5) = true then (
              some ((GConf.mk [] r101.1.quantum r101.1.maxWait r101.1.maxRetry r101.1.maxSplit r101.1.lockMost), r201.2))
            else (
              if decide (r201.1 = 6) = true then (
                (p_s_l1PickInt r201.2 [(-1), 4, 3]).bind fun r1602 =>
                some ((GConf.mk r101.1.masters r101.1.quantum r101.1.maxWait r1602.1 r101.1.maxSplit r101.1.lockMost), r1602.2))
              else (
                some (r101.1, r201.2))))))))

def p_s_l11Draw__J1 (x0 : GL1Cur)  (vbox_0_63 : GL1Cur) (vbox_1_4 : GConf) : Option (GWrr × GConf × GL1Cur) :=
  (p_s_l1Below vbox_0_63 (maxI 1 (vbox_1_4.masters.length : Int))).bind fun r405 =>
  (p_s_TurnOf vbox_1_4 r405.1).bind fun r504 =>
  (p_s_l1Below r405.2 (addW r504 1)).bind fun r506 =>
  (p_s_l1Below r506.2 14).bind fun r601 =>
  if decide (r601.1 = 0) = true then (
    (p_s_l1PickInt r601.2 [(-1), 4]).bind fun r802 =>
    some ((GWrr.mk r802.1 r506.1), vbox_1_4, r802.2))
  else (
    if decide (r601.1 = 1) = true then (
      (p_s_l1PickInt r601.2 [(-1), 17]).bind fun r1002 =>
      some ((GWrr.mk r405.1 r1002.1), vbox_1_4, r1002.2))
    else (
      some ((GWrr.mk r405.1 r506.1), vbox_1_4, r601.2)))

def p_s_l11Draw (x0 : GL1Cur) : Option (GWrr × GConf × GL1Cur) :=
  (p_s_l6Conf x0).bind fun r101 =>
  (p_s_l1Once r101.2 14).bind fun r201 =>
  if r201.1 = true then (
    (p_s_l6Any r201.2).bind fun r301 =>
    p_s_l11Draw__J1 x0 r301.2 r301.1)
  else (
    p_s_l11Draw__J1 x0 r201.2 r101.1)

def p_s_DrawWrrOk (x0 : List Int) : Option (GWrr × GConf) :=
  (p_s_l1New x0).bind fun r101 =>
  (p_s_l11Draw r101).bind fun r102 =>
  some (r102.1, r102.2.1)

def p_s_WrrOk (x0 : GWrr) (x1 : GConf) : Option Bool :=
  (p_s_ConfOk x1).bind fun r101 =>
  if r101 = true then (
    (p_s_l1In x0.at_ 0 (subW (x1.masters.length : Int) 1)).bind fun r109 =>
    if r109 = true then (
      (p_s_TurnOf x1 x0.at_).bind fun r117 =>
      (p_s_l1In x0.credit 0 r117).bind fun r118 =>
      some r118)
    else (
      some false))
  else (
    some false)

def p_i_WrrOk (x0 : GWrr) (x1 : GConf) : Option Bool :=
  (p_i_ConfOk x1).bind fun r101 =>
  if r101 = true then (
    (p_i_isMaster x1 x0.at_).bind fun r106 =>
    if r106 = true then (
      (p_i_TurnOf x1 x0.at_).bind fun r114 =>
      (p_i_within x0.credit 0 r114).bind fun r115 =>
      some r115)
    else (
      some false))
  else (
    some false)

def p_w_at (x0 : List Int) (x1 : Int) : Option Int :=
  if decide (x1 < (x0.length : Int)) = true then (
    (idx x0 x1).bind fun a202 =>
    some (w64 a202))
  else (
    some (remW (addW (mulW x1 37) (mulW (x0.length : Int) 11)) 256))

def p_i_WrrPick__L1b (x0 : GWrr) (x1 : GConf) (x2 : List Bool)  (k : Int → Option (GWrr × Int)) (v9 : Int) : Option (GWrr × Int) :=
  if decide (v9 ≤ (x1.masters.length : Int)) = true then (
    (nzI (x1.masters.length : Int)).bind fun n1005 =>
    (idx x2 (remW (addW x0.at_ v9) (x1.masters.length : Int))).bind fun a1102 =>
    if a1102 = true then (
      (p_i_TurnOf x1 (remW (addW x0.at_ v9) (x1.masters.length : Int))).bind fun r1203 =>
      some ((GWrr.mk (remW (addW x0.at_ v9) (x1.masters.length : Int)) (subW r1203 1)), (remW (addW x0.at_ v9) (x1.masters.length : Int))))
    else (
      k (addW v9 1)))
  else (
    some ((GWrr.mk x0.at_ 0), (-1)))

def p_i_WrrPick__L1 (x0 : GWrr) (x1 : GConf) (x2 : List Bool)  : Nat → Int → Option (GWrr × Int)
  | 0, _ => none
  | m + 1, v9 => p_i_WrrPick__L1b x0 x1 x2  (fun v9 => p_i_WrrPick__L1 x0 x1 x2  m v9) v9

def p_i_WrrPick__J3 (x0 : GWrr) (x1 : GConf) (x2 : List Bool)  (v34 : Bool) : Option (GWrr × Int) :=
  if v34 = true then (
    some ((GWrr.mk x0.at_ (subW x0.credit 1)), x0.at_))
  else (
    p_i_WrrPick__L1 x0 x1 x2 FU 1)

def p_i_WrrPick__J2 (x0 : GWrr) (x1 : GConf) (x2 : List Bool)  (v23 : Bool) : Option (GWrr × Int) :=
  if v23 = true then (
    some (x0, (-1)))
  else (
    if decide (x0.credit > 0) = true then (
      (idx x2 x0.at_).bind fun a407 =>
      p_i_WrrPick__J3 x0 x1 x2 a407)
    else (
      p_i_WrrPick__J3 x0 x1 x2 false))

def p_i_WrrPick (x0 : GWrr) (x1 : GConf) (x2 : List Bool) : Option (GWrr × Int) :=
  (p_i_WrrOk x0 x1).bind fun r202 =>
  if (!r202) = true then (
    p_i_WrrPick__J2 x0 x1 x2 true)
  else (
    p_i_WrrPick__J2 x0 x1 x2 (decide ((x2.length : Int) ≠ (x1.masters.length : Int))))

def p_i_Served__L1b (x0 : List GDone) (x1 : Int) (x2 : Int) (x3 : Int)  (k : Int → Int → Option Int) (v9 : Int) (v14 : Int) : Option Int :=
  if decide (v14 < (x0.length : Int)) = true then (
    (idx x0 v14).bind fun a400 =>
    if decide (a400.who = x1) = true then (
      if decide (x2 ≤ a400.cycle) = true then (
        if decide (a400.cycle < x3) = true then (
          k (addW v9 1) (addW v14 1))
        else (
          k v9 (addW v14 1)))
      else (
        k v9 (addW v14 1)))
    else (
      k v9 (addW v14 1)))
  else (
    some v9)

def p_i_Served__L1 (x0 : List GDone) (x1 : Int) (x2 : Int) (x3 : Int)  : Nat → Int → Int → Option Int
  | 0, _, _ => none
  | m + 1, v9, v14 => p_i_Served__L1b x0 x1 x2 x3  (fun v9 v14 => p_i_Served__L1 x0 x1 x2 x3  m v9 v14) v9 v14

def p_i_Served (x0 : List GDone) (x1 : Int) (x2 : Int) (x3 : Int) : Option Int :=
  p_i_Served__L1 x0 x1 x2 x3 FU 0 0

def p_i_Spread (x0 : GConf) (x1 : List GDone) (x2 : Int) (x3 : Int) : Option Int :=
  (p_i_areTurns x0 x2 x3).bind fun r103 =>
  if (!r103) = true then (
    some 0)
  else (
    (p_i_Served x1 x2 0 4000).bind fun r302 =>
    (idx x0.masters x3).bind fun a306 =>
    (p_i_Served x1 x3 0 4000).bind fun r312 =>
    (idx x0.masters x2).bind fun a316 =>
    some (maxI (subW (mulW r302 a306.weight) (mulW r312 a316.weight)) (negW (subW (mulW r302 a306.weight) (mulW r312 a316.weight)))))

def p_s_Served__L1b (x0 : List GDone) (x1 : Int) (x2 : Int) (x3 : Int)  (k : Int → Int → Option Int) (v9 : Int) (v10 : Int) : Option Int :=
  if decide (v10 < (x0.length : Int)) = true then (
    (idx x0 v10).bind fun a502 =>
    if decide (a502.who = x1) = true then (
      if decide (a502.cycle ≥ x2) = true then (
        if decide (a502.cycle < x3) = true then (
          k (addW v9 1) (addW v10 1))
        else (
          k v9 (addW v10 1)))
      else (
        k v9 (addW v10 1)))
    else (
      k v9 (addW v10 1)))
  else (
    some v9)

def p_s_Served__L1 (x0 : List GDone) (x1 : Int) (x2 : Int) (x3 : Int)  : Nat → Int → Int → Option Int
  | 0, _, _ => none
  | m + 1, v9, v10 => p_s_Served__L1b x0 x1 x2 x3  (fun v9 v10 => p_s_Served__L1 x0 x1 x2 x3  m v9 v10) v9 v10

def p_s_Served (x0 : List GDone) (x1 : Int) (x2 : Int) (x3 : Int) : Option Int :=
  p_s_Served__L1 x0 x1 x2 x3 FU 0 0

def p_s_Spread__J1 (x0 : GConf) (x1 : List GDone) (x2 : Int) (x3 : Int)  (v19 : Bool) : Option Int :=
  if v19 = true then (
    some 0)
  else (
    (p_s_Served x1 x2 0 4000).bind fun r302 =>
    (idx x0.masters x3).bind fun a306 =>
    (p_s_Served x1 x3 0 4000).bind fun r312 =>
    (idx x0.masters x2).bind fun a316 =>
    some (maxI (subW (mulW r302 a306.weight) (mulW r312 a316.weight)) (negW (subW (mulW r302 a306.weight) (mulW r312 a316.weight)))))

def p_s_Spread (x0 : GConf) (x1 : List GDone) (x2 : Int) (x3 : Int) : Option Int :=
  (p_s_TurnOf x0 x2).bind fun r102 =>
  if decide (r102 = 0) = true then (
    p_s_Spread__J1 x0 x1 x2 x3 true)
  else (
    (p_s_TurnOf x0 x3).bind fun r107 =>
    p_s_Spread__J1 x0 x1 x2 x3 (decide (r107 = 0)))

def p_w_FnFair__J5 (x0 : List Int) (k_L2 : GWrr → GConf → (List GDone) → (List Bool) → Int → Option Bool) (vbox_1_1 : GWrr) (vbox_1_2 : GConf) (vbox_1_4 : GWrr) (v5 : List GDone) (v6 : List Bool) (v8 : Int) (v10 : Int) (v70 : Bool) : Option Bool :=
  if v70 = true then (
    some false)
  else (
    (appI 56 v5 [(GDone.mk v8 v10 false 0 0 0 0)]).bind fun z1905 =>
    k_L2 vbox_1_4 vbox_1_2 z1905 v6 (addW v8 1))

def p_w_FnFair__L4b (x0 : List Int) (k_L3 : GConf → (List GDone) → (List Bool) → Int → Option Bool) (k : GConf → (List GDone) → (List Bool) → Int → Int → Option Bool) (vbox_1_1 : GConf) (v5 : List GDone) (v6 : List Bool) (v11 : Int) (v12 : Int) : Option Bool :=
  if decide (v12 < (v6.length : Int)) = true then (
    (p_i_Spread vbox_1_1 v5 v11 v12).bind fun r2704 =>
    (p_i_SpreadMost vbox_1_1 v11 v12).bind fun r2708 =>
    if decide (r2704 > r2708) = true then (
      some false)
    else (
      (p_i_Spread vbox_1_1 v5 v11 v12).bind fun r2715 =>
      (p_s_Spread vbox_1_1 v5 v11 v12).bind fun r2720 =>
      if decide (r2715 ≠ r2720) = true then (
        some false)
      else (
        k vbox_1_1 v5 v6 v11 (addW v12 1))))
  else (
    k_L3 vbox_1_1 v5 v6 (addW v11 1))

def p_w_FnFair__L4 (x0 : List Int) (k_L3 : GConf → (List GDone) → (List Bool) → Int → Option Bool) : Nat → GConf → (List GDone) → (List Bool) → Int → Int → Option Bool
  | 0, _, _, _, _, _ => none
  | m + 1, vbox_1_1, v5, v6, v11, v12 => p_w_FnFair__L4b x0 k_L3 (fun vbox_1_1 v5 v6 v11 v12 => p_w_FnFair__L4 x0 k_L3 m vbox_1_1 v5 v6 v11 v12) vbox_1_1 v5 v6 v11 v12

def p_w_FnFair__L3b (x0 : List Int)  (k : GConf → (List GDone) → (List Bool) → Int → Option Bool) (vbox_1_1 : GConf) (v5 : List GDone) (v6 : List Bool) (v11 : Int) : Option Bool :=
  if decide (v11 < (v6.length : Int)) = true then (
    p_w_FnFair__L4 x0 k FU vbox_1_1 v5 v6 v11 0)
  else (
    some true)

def p_w_FnFair__L3 (x0 : List Int)  : Nat → GConf → (List GDone) → (List Bool) → Int → Option Bool
  | 0, _, _, _, _ => none
  | m + 1, vbox_1_1, v5, v6, v11 => p_w_FnFair__L3b x0  (fun vbox_1_1 v5 v6 v11 => p_w_FnFair__L3 x0  m vbox_1_1 v5 v6 v11) vbox_1_1 v5 v6 v11

def p_w_FnFair__L2b (x0 : List Int)  (k : GWrr → GConf → (List GDone) → (List Bool) → Int → Option Bool) (vbox_1_1 : GWrr) (vbox_1_2 : GConf) (v5 : List GDone) (v6 : List Bool) (v8 : Int) : Option Bool :=
  (p_w_at x0 0).bind fun r1402 =>
  if decide (v8 < (addW 60 r1402)) = true then (
    (p_i_WrrPick vbox_1_1 vbox_1_2 v6).bind fun r1603 =>
    if decide (r1603.2 < 0) = true then (
      p_w_FnFair__J5 x0 k vbox_1_1 vbox_1_2 r1603.1 v5 v6 v8 r1603.2 true)
    else (
      if decide (r1603.2 ≥ (v6.length : Int)) = true then (
        p_w_FnFair__J5 x0 k vbox_1_1 vbox_1_2 r1603.1 v5 v6 v8 r1603.2 true)
      else (
        (p_s_WrrOk r1603.1 vbox_1_2).bind fun r1711 =>
        p_w_FnFair__J5 x0 k vbox_1_1 vbox_1_2 r1603.1 v5 v6 v8 r1603.2 (!r1711))))
  else (
    p_w_FnFair__L3 x0 FU vbox_1_2 v5 v6 0)

def p_w_FnFair__L2 (x0 : List Int)  : Nat → GWrr → GConf → (List GDone) → (List Bool) → Int → Option Bool
  | 0, _, _, _, _, _ => none
  | m + 1, vbox_1_1, vbox_1_2, v5, v6, v8 => p_w_FnFair__L2b x0  (fun vbox_1_1 vbox_1_2 v5 v6 v8 => p_w_FnFair__L2 x0  m vbox_1_1 vbox_1_2 v5 v6 v8) vbox_1_1 vbox_1_2 v5 v6 v8

def p_w_FnFair__L1b (x0 : List Int)  (k : GWrr → GConf → (List Bool) → Int → Option Bool) (vbox_1_1 : GWrr) (vbox_1_2 : GConf) (v6 : List Bool) (v7 : Int) : Option Bool :=
  if decide (v7 < (v6.length : Int)) = true then (
    (idx v6 v7).bind fun a1102 =>
    (setO v6 v7 true).bind fun y1103 =>
    k vbox_1_1 vbox_1_2 y1103 (addW v7 1))
  else (
    p_w_FnFair__L2 x0 FU (GWrr.mk 0 0) vbox_1_2 [] v6 0)

def p_w_FnFair__L1 (x0 : List Int)  : Nat → GWrr → GConf → (List Bool) → Int → Option Bool
  | 0, _, _, _, _ => none
  | m + 1, vbox_1_1, vbox_1_2, v6, v7 => p_w_FnFair__L1b x0  (fun vbox_1_1 vbox_1_2 v6 v7 => p_w_FnFair__L1 x0  m vbox_1_1 vbox_1_2 v6 v7) vbox_1_1 vbox_1_2 v6 v7

def p_w_FnFair (x0 : List Int) : Option Bool :=
  (p_w_big x0).bind fun r101 =>
  if r101 = true then (
    some true)
  else (
    (p_s_DrawWrrOk x0).bind fun r301 =>
    (p_s_WrrOk r301.1 r301.2).bind fun r402 =>
    if (!r402) = true then (
      (p_i_WrrOk r301.1 r301.2).bind fun r502 =>
      some (!r502))
    else (
      (mkI 1 (r301.2.masters.length : Int) false).bind fun m703 =>
      p_w_FnFair__L1 x0 FU r301.1 r301.2 m703 0))

def p_w_FnExactSpread (x0 : GConf) (x1 : List GDone) (x2 : Int) (x3 : Int) : Option Bool :=
  (p_w_szConf x0 1048576).bind fun r202 =>
  if decide (r202 < 0) = true then (
    some true)
  else (
    (p_w_szDoneS x1 r202).bind fun r502 =>
    if decide (r502 < 0) = true then (
      some true)
    else (
      (p_w_toConf x0).bind fun r801 =>
      (p_w_toDoneS x1).bind fun r803 =>
      (p_s_Spread r801 r803 x2 x3).bind fun r806 =>
      (p_w_toConf x0).bind fun r901 =>
      (p_w_toDoneS x1).bind fun r1001 =>
      (p_i_Spread r901 r1001 x2 x3).bind fun r1104 =>
      if decide (r1104 ≠ r806) = true then (
        some false)
      else (
        (p_w_toConf x0).bind fun r1402 =>
        (p_w_eqConf r901 r1402).bind fun r1403 =>
        if (!r1403) = true then (
          some false)
        else (
          (p_w_toDoneS x1).bind fun r1602 =>
          (p_w_eqDoneS r1001 r1602).bind fun r1603 =>
          if (!r1603) = true then (
            some false)
          else (
            some true)))))

end Go.Proofs.Ytolbhpampnjinaa.Ev
