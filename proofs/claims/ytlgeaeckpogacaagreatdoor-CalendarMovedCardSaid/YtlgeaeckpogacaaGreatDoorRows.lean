/-
  NARROWER THAN 'FOR EVERY INPUT', by the rows' own cells (each row's printed sentence says how): CalendarSpec: laid · CalendarMovedSpec: laid · CalendarDays: laid · CalendarLess: laid · CalendarConditions: laid · CalendarMoved: laid · CalendarDigest: laid.
  DERIVED. THE GIVEN ROWS OF THIS SEAT. 7 by the template 'for every input the law returns true; each argument reads behind the call as it read before'; 0 by the template 'total and deterministic' (their statements: YtlgeaeckpogacaaGreatDoorTotals.lean).
  GIVEN WITH THE SEED: the statements are not yours to turn. If you find one false, say at which input.
  Laid BY PROGRAM, IN A SANDBOX (cutbox-rows.mjs): the forced cells as the released guide's own fill.sh prints them over the translation 0140ca867098ba24… (all of the seat's roots in one cut). By AI agents, Wed Nov 11 2026. No macro, syntax, notation, axiom, sorry.
-/
import Derived.Test.YtlgeaeckpogacaaGreatDoorChecked
import GoSem.Claim
import GoSem.ClaimJoined
import GoSem.ClaimMapViews
import Derived.JoinedTies
import Derived.KernelRfl
namespace Go.Proofs.YtlgeaeckpogacaaGreatDoor
/- THE CELL 'sum', in the pinned program and in every row, IS THE sha256 OF THE DUMP (.gsa) THAT YtlgeaeckpogacaaGreatDoorProg.lean LOADS. Nothing in Lean hashes anything: it is a label: what it is worth is what the hold of that sum in a sandbox is worth. -/
noncomputable def Tryz.pinned : Pinned := { name := "ytlgeaeckpogacaagreatdoor", sum := "0140ca867098ba24505525b68774eb113c8dade2502be9daff530c967a3ea538", checked := Tryz.checked }
namespace Rows
def none {H : Type} : Left H := { results := [], args := [] }

/- WHAT THE LISTED PACKAGE-LEVEL VARIABLES READ AS WHEN THE CALL BEGINS. Each datum BY PROGRAM (the guide's laid-datum.mjs) off the statement by which the dump's own 'gosem.cut.vars' lays the variable. In a bare row this is a premise. The card (YtlgeaeckpogacaaGreatDoorCards.lean) ties it to the program's text. -/
def laid_fasti_days_lengths {H : Type} : DataW H := .agg [.lit (.int .i64 31), .lit (.int .i64 29), .lit (.int .i64 31), .lit (.int .i64 30), .lit (.int .i64 31), .lit (.int .i64 30), .lit (.int .i64 31), .lit (.int .i64 31), .lit (.int .i64 30), .lit (.int .i64 31), .lit (.int .i64 30), .lit (.int .i64 31)]
def laid_fasti_digest_start {H : Type} : DataW H := .agg [.lit (.int .u32 1779033703), .lit (.int .u32 3144134277), .lit (.int .u32 1013904242), .lit (.int .u32 2773480762), .lit (.int .u32 1359893119), .lit (.int .u32 2600822924), .lit (.int .u32 528734635), .lit (.int .u32 1541459225)]
def laid_fasti_digest_numbers {H : Type} : DataW H := .agg [.lit (.int .u32 1116352408), .lit (.int .u32 1899447441), .lit (.int .u32 3049323471), .lit (.int .u32 3921009573), .lit (.int .u32 961987163), .lit (.int .u32 1508970993), .lit (.int .u32 2453635748), .lit (.int .u32 2870763221), .lit (.int .u32 3624381080), .lit (.int .u32 310598401), .lit (.int .u32 607225278), .lit (.int .u32 1426881987), .lit (.int .u32 1925078388), .lit (.int .u32 2162078206), .lit (.int .u32 2614888103), .lit (.int .u32 3248222580), .lit (.int .u32 3835390401), .lit (.int .u32 4022224774), .lit (.int .u32 264347078), .lit (.int .u32 604807628), .lit (.int .u32 770255983), .lit (.int .u32 1249150122), .lit (.int .u32 1555081692), .lit (.int .u32 1996064986), .lit (.int .u32 2554220882), .lit (.int .u32 2821834349), .lit (.int .u32 2952996808), .lit (.int .u32 3210313671), .lit (.int .u32 3336571891), .lit (.int .u32 3584528711), .lit (.int .u32 113926993), .lit (.int .u32 338241895), .lit (.int .u32 666307205), .lit (.int .u32 773529912), .lit (.int .u32 1294757372), .lit (.int .u32 1396182291), .lit (.int .u32 1695183700), .lit (.int .u32 1986661051), .lit (.int .u32 2177026350), .lit (.int .u32 2456956037), .lit (.int .u32 2730485921), .lit (.int .u32 2820302411), .lit (.int .u32 3259730800), .lit (.int .u32 3345764771), .lit (.int .u32 3516065817), .lit (.int .u32 3600352804), .lit (.int .u32 4094571909), .lit (.int .u32 275423344), .lit (.int .u32 430227734), .lit (.int .u32 506948616), .lit (.int .u32 659060556), .lit (.int .u32 883997877), .lit (.int .u32 958139571), .lit (.int .u32 1322822218), .lit (.int .u32 1537002063), .lit (.int .u32 1747873779), .lit (.int .u32 1955562222), .lit (.int .u32 2024104815), .lit (.int .u32 2227730452), .lit (.int .u32 2361852424), .lit (.int .u32 2428436474), .lit (.int .u32 2756734187), .lit (.int .u32 3204031479), .lit (.int .u32 3329325298)]

/-- 'fastilaw35.CalendarSpec': WHATEVER THE INPUT: true; the input reads as it did. -/
def calendarSpecSpec : ChangeSpec := { name := "calendarSpec", fn := fun _ => fun
  | [d1, d2, d3, d4] => { results := [.lit (.bool true)], args := [d1, d2, d3, d4] }
  | _ => none }
def calendarSpecRow : OpenClaim := { program := "ytlgeaeckpogacaagreatdoor", sum := "0140ca867098ba24505525b68774eb113c8dade2502be9daff530c967a3ea538", func := "fasti/fastilaw35.CalendarSpec", spec := "calendarSpec", inPlace := ["internal/bytealg.IndexByteString", "internal/bytealg.IndexString"], unfollowed := true, recurses := true, named := ["fasti/digest.start", "fasti/digest.numbers", "internal/bytealg.MaxLen", "fasti/days.lengths"], plainKeys := false, apart := false, laid := [("fasti/days.lengths", laid_fasti_days_lengths), ("fasti/digest.start", laid_fasti_digest_start), ("fasti/digest.numbers", laid_fasti_digest_numbers)] }
def CalendarSpecSaid : Prop := calendarSpecRow.holds Tryz.pinned (OpenSpec.ofChange calendarSpecSpec)

/-- ITS FALSE NEIGHBOUR: 'it returns false'. Refute it at one input. -/
def calendarSpecWrong : ChangeSpec := { name := "calendarSpec", fn := fun _ => fun
  | [d1, d2, d3, d4] => { results := [.lit (.bool false)], args := [d1, d2, d3, d4] }
  | _ => none }
def CalendarSpecWrongFalsely : Prop := calendarSpecRow.holds Tryz.pinned (OpenSpec.ofChange calendarSpecWrong)

/-- 'fastilaw35.CalendarMovedSpec': WHATEVER THE INPUT: true; the input reads as it did. -/
def calendarMovedSpecSpec : ChangeSpec := { name := "calendarMovedSpec", fn := fun _ => fun
  | [d1, d2] => { results := [.lit (.bool true)], args := [d1, d2] }
  | _ => none }
def calendarMovedSpecRow : OpenClaim := { program := "ytlgeaeckpogacaagreatdoor", sum := "0140ca867098ba24505525b68774eb113c8dade2502be9daff530c967a3ea538", func := "fasti/fastilaw35.CalendarMovedSpec", spec := "calendarMovedSpec", inPlace := ["internal/bytealg.IndexByteString", "internal/bytealg.IndexString"], unfollowed := true, recurses := true, named := ["fasti/digest.start", "fasti/digest.numbers", "internal/bytealg.MaxLen", "fasti/days.lengths"], plainKeys := false, apart := false, laid := [("fasti/days.lengths", laid_fasti_days_lengths), ("fasti/digest.start", laid_fasti_digest_start), ("fasti/digest.numbers", laid_fasti_digest_numbers)] }
def CalendarMovedSpecSaid : Prop := calendarMovedSpecRow.holds Tryz.pinned (OpenSpec.ofChange calendarMovedSpecSpec)

/-- ITS FALSE NEIGHBOUR: 'it returns false'. Refute it at one input. -/
def calendarMovedSpecWrong : ChangeSpec := { name := "calendarMovedSpec", fn := fun _ => fun
  | [d1, d2] => { results := [.lit (.bool false)], args := [d1, d2] }
  | _ => none }
def CalendarMovedSpecWrongFalsely : Prop := calendarMovedSpecRow.holds Tryz.pinned (OpenSpec.ofChange calendarMovedSpecWrong)

/-- 'fastilaw35.CalendarDays': WHATEVER THE INPUT: true; the input reads as it did. -/
def calendarDaysSpec : ChangeSpec := { name := "calendarDays", fn := fun _ => fun
  | [d1, d2, d3, d4] => { results := [.lit (.bool true)], args := [d1, d2, d3, d4] }
  | _ => none }
def calendarDaysRow : OpenClaim := { program := "ytlgeaeckpogacaagreatdoor", sum := "0140ca867098ba24505525b68774eb113c8dade2502be9daff530c967a3ea538", func := "fasti/fastilaw35.CalendarDays", spec := "calendarDays", inPlace := ["internal/bytealg.IndexByteString", "internal/bytealg.IndexString"], unfollowed := true, recurses := true, named := ["fasti/digest.start", "fasti/digest.numbers", "internal/bytealg.MaxLen", "fasti/days.lengths"], plainKeys := false, apart := false, laid := [("fasti/days.lengths", laid_fasti_days_lengths), ("fasti/digest.start", laid_fasti_digest_start), ("fasti/digest.numbers", laid_fasti_digest_numbers)] }
def CalendarDaysSaid : Prop := calendarDaysRow.holds Tryz.pinned (OpenSpec.ofChange calendarDaysSpec)

/-- ITS FALSE NEIGHBOUR: 'it returns false'. Refute it at one input. -/
def calendarDaysWrong : ChangeSpec := { name := "calendarDays", fn := fun _ => fun
  | [d1, d2, d3, d4] => { results := [.lit (.bool false)], args := [d1, d2, d3, d4] }
  | _ => none }
def CalendarDaysWrongFalsely : Prop := calendarDaysRow.holds Tryz.pinned (OpenSpec.ofChange calendarDaysWrong)

/-- 'fastilaw35.CalendarLess': WHATEVER THE INPUT: true; the input reads as it did. -/
def calendarLessSpec : ChangeSpec := { name := "calendarLess", fn := fun _ => fun
  | [d1, d2, d3, d4] => { results := [.lit (.bool true)], args := [d1, d2, d3, d4] }
  | _ => none }
def calendarLessRow : OpenClaim := { program := "ytlgeaeckpogacaagreatdoor", sum := "0140ca867098ba24505525b68774eb113c8dade2502be9daff530c967a3ea538", func := "fasti/fastilaw35.CalendarLess", spec := "calendarLess", inPlace := ["internal/bytealg.IndexByteString", "internal/bytealg.IndexString"], unfollowed := true, recurses := true, named := ["fasti/digest.start", "fasti/digest.numbers", "internal/bytealg.MaxLen", "fasti/days.lengths"], plainKeys := false, apart := false, laid := [("fasti/days.lengths", laid_fasti_days_lengths), ("fasti/digest.start", laid_fasti_digest_start), ("fasti/digest.numbers", laid_fasti_digest_numbers)] }
def CalendarLessSaid : Prop := calendarLessRow.holds Tryz.pinned (OpenSpec.ofChange calendarLessSpec)

/-- ITS FALSE NEIGHBOUR: 'it returns false'. Refute it at one input. -/
def calendarLessWrong : ChangeSpec := { name := "calendarLess", fn := fun _ => fun
  | [d1, d2, d3, d4] => { results := [.lit (.bool false)], args := [d1, d2, d3, d4] }
  | _ => none }
def CalendarLessWrongFalsely : Prop := calendarLessRow.holds Tryz.pinned (OpenSpec.ofChange calendarLessWrong)

/-- 'fastilaw35.CalendarConditions': WHATEVER THE INPUT: true; the input reads as it did. -/
def calendarConditionsSpec : ChangeSpec := { name := "calendarConditions", fn := fun _ => fun
  | [d1, d2, d3] => { results := [.lit (.bool true)], args := [d1, d2, d3] }
  | _ => none }
def calendarConditionsRow : OpenClaim := { program := "ytlgeaeckpogacaagreatdoor", sum := "0140ca867098ba24505525b68774eb113c8dade2502be9daff530c967a3ea538", func := "fasti/fastilaw35.CalendarConditions", spec := "calendarConditions", inPlace := ["internal/bytealg.IndexByteString", "internal/bytealg.IndexString"], unfollowed := true, recurses := true, named := ["fasti/digest.start", "fasti/digest.numbers", "internal/bytealg.MaxLen", "fasti/days.lengths"], plainKeys := false, apart := false, laid := [("fasti/days.lengths", laid_fasti_days_lengths), ("fasti/digest.start", laid_fasti_digest_start), ("fasti/digest.numbers", laid_fasti_digest_numbers)] }
def CalendarConditionsSaid : Prop := calendarConditionsRow.holds Tryz.pinned (OpenSpec.ofChange calendarConditionsSpec)

/-- ITS FALSE NEIGHBOUR: 'it returns false'. Refute it at one input. -/
def calendarConditionsWrong : ChangeSpec := { name := "calendarConditions", fn := fun _ => fun
  | [d1, d2, d3] => { results := [.lit (.bool false)], args := [d1, d2, d3] }
  | _ => none }
def CalendarConditionsWrongFalsely : Prop := calendarConditionsRow.holds Tryz.pinned (OpenSpec.ofChange calendarConditionsWrong)

/-- 'fastilaw35.CalendarMoved': WHATEVER THE INPUT: true; the input reads as it did. -/
def calendarMovedSpec : ChangeSpec := { name := "calendarMoved", fn := fun _ => fun
  | [d1, d2, d3] => { results := [.lit (.bool true)], args := [d1, d2, d3] }
  | _ => none }
def calendarMovedRow : OpenClaim := { program := "ytlgeaeckpogacaagreatdoor", sum := "0140ca867098ba24505525b68774eb113c8dade2502be9daff530c967a3ea538", func := "fasti/fastilaw35.CalendarMoved", spec := "calendarMoved", inPlace := ["internal/bytealg.IndexByteString", "internal/bytealg.IndexString"], unfollowed := true, recurses := true, named := ["fasti/digest.start", "fasti/digest.numbers", "internal/bytealg.MaxLen", "fasti/days.lengths"], plainKeys := false, apart := false, laid := [("fasti/days.lengths", laid_fasti_days_lengths), ("fasti/digest.start", laid_fasti_digest_start), ("fasti/digest.numbers", laid_fasti_digest_numbers)] }
def CalendarMovedSaid : Prop := calendarMovedRow.holds Tryz.pinned (OpenSpec.ofChange calendarMovedSpec)

/-- ITS FALSE NEIGHBOUR: 'it returns false'. Refute it at one input. -/
def calendarMovedWrong : ChangeSpec := { name := "calendarMoved", fn := fun _ => fun
  | [d1, d2, d3] => { results := [.lit (.bool false)], args := [d1, d2, d3] }
  | _ => none }
def CalendarMovedWrongFalsely : Prop := calendarMovedRow.holds Tryz.pinned (OpenSpec.ofChange calendarMovedWrong)

/-- 'fastilaw35.CalendarDigest': WHATEVER THE INPUT: true; the input reads as it did. -/
def calendarDigestSpec : ChangeSpec := { name := "calendarDigest", fn := fun _ => fun
  | [d1, d2] => { results := [.lit (.bool true)], args := [d1, d2] }
  | _ => none }
def calendarDigestRow : OpenClaim := { program := "ytlgeaeckpogacaagreatdoor", sum := "0140ca867098ba24505525b68774eb113c8dade2502be9daff530c967a3ea538", func := "fasti/fastilaw35.CalendarDigest", spec := "calendarDigest", inPlace := ["internal/bytealg.IndexByteString", "internal/bytealg.IndexString"], unfollowed := true, recurses := true, named := ["fasti/digest.start", "fasti/digest.numbers", "internal/bytealg.MaxLen", "fasti/days.lengths"], plainKeys := false, apart := false, laid := [("fasti/days.lengths", laid_fasti_days_lengths), ("fasti/digest.start", laid_fasti_digest_start), ("fasti/digest.numbers", laid_fasti_digest_numbers)] }
def CalendarDigestSaid : Prop := calendarDigestRow.holds Tryz.pinned (OpenSpec.ofChange calendarDigestSpec)

/-- ITS FALSE NEIGHBOUR: 'it returns false'. Refute it at one input. -/
def calendarDigestWrong : ChangeSpec := { name := "calendarDigest", fn := fun _ => fun
  | [d1, d2] => { results := [.lit (.bool false)], args := [d1, d2] }
  | _ => none }
def CalendarDigestWrongFalsely : Prop := calendarDigestRow.holds Tryz.pinned (OpenSpec.ofChange calendarDigestWrong)

/- THE SECOND FORM. 'bulk': how many values and letters a reading holds, each counted each time it is reached (what is shared counts as often as it is met; a slice's spare places count too). A statement '..UptoSaid' is the law's where the arguments, and the package variables that the reading takes, are together of bulk at most 1048576: NARROWER than '..Said'. Prove '..Said' where nothing that the law and all that it calls make is longer than what came in: it says more and counts as full. Else prove '..UptoSaid'. A law counts once. -/
mutual
def uptoBulk {H : Type} : DataW H → Nat
  | .lit (.string bytes) => bytes.length + 1
  | .lit _ => 1
  | .nil => 1
  | .ptr d => uptoBulk d + 1
  | .slice elems spare => uptoBulkAll elems + uptoBulkAll spare + 1
  | .agg parts => uptoBulkAll parts + 1
  | .iface _ d => uptoBulk d + 1
  | .map entries => uptoBulkEntries entries + 1
  | .held _ => 1
def uptoBulkAll {H : Type} : List (DataW H) → Nat
  | [] => 0
  | d :: r => uptoBulk d + uptoBulkAll r
def uptoBulkEntries {H : Type} : List (Lit × DataW H) → Nat
  | [] => 0
  | x :: r => uptoBulkEntry x + uptoBulkEntries r
def uptoBulkEntry {H : Type} : Lit × DataW H → Nat
  | (.string bytes, d) => bytes.length + uptoBulk d + 1
  | (_, d) => uptoBulk d + 1
 end
def uptoSmall : (H : Type) → List (DataW H) → Bool := fun _ ds => decide (uptoBulkAll ds ≤ 1048576)
def OpenSpec.upto (s : _root_.Go.ChangeSpec) : _root_.Go.OpenSpec := { _root_.Go.OpenSpec.ofChange s with cond := some uptoSmall }

/-- 'fastilaw35.CalendarSpec', WHERE WHAT IT READS IS OF BULK AT MOST 1048576: true; the input reads as it did. -/
def calendarSpecUptoRow : OpenClaim := { program := "ytlgeaeckpogacaagreatdoor", sum := "0140ca867098ba24505525b68774eb113c8dade2502be9daff530c967a3ea538", func := "fasti/fastilaw35.CalendarSpec", spec := "calendarSpec", inPlace := ["internal/bytealg.IndexByteString", "internal/bytealg.IndexString"], unfollowed := true, recurses := true, named := ["fasti/digest.start", "fasti/digest.numbers", "internal/bytealg.MaxLen", "fasti/days.lengths"], plainKeys := false, apart := false, laid := [("fasti/days.lengths", laid_fasti_days_lengths), ("fasti/digest.start", laid_fasti_digest_start), ("fasti/digest.numbers", laid_fasti_digest_numbers)], narrowed := true }
def CalendarSpecUptoSaid : Prop := calendarSpecUptoRow.holds Tryz.pinned (OpenSpec.upto calendarSpecSpec)

/-- 'fastilaw35.CalendarMovedSpec', WHERE WHAT IT READS IS OF BULK AT MOST 1048576: true; the input reads as it did. -/
def calendarMovedSpecUptoRow : OpenClaim := { program := "ytlgeaeckpogacaagreatdoor", sum := "0140ca867098ba24505525b68774eb113c8dade2502be9daff530c967a3ea538", func := "fasti/fastilaw35.CalendarMovedSpec", spec := "calendarMovedSpec", inPlace := ["internal/bytealg.IndexByteString", "internal/bytealg.IndexString"], unfollowed := true, recurses := true, named := ["fasti/digest.start", "fasti/digest.numbers", "internal/bytealg.MaxLen", "fasti/days.lengths"], plainKeys := false, apart := false, laid := [("fasti/days.lengths", laid_fasti_days_lengths), ("fasti/digest.start", laid_fasti_digest_start), ("fasti/digest.numbers", laid_fasti_digest_numbers)], narrowed := true }
def CalendarMovedSpecUptoSaid : Prop := calendarMovedSpecUptoRow.holds Tryz.pinned (OpenSpec.upto calendarMovedSpecSpec)

/-- 'fastilaw35.CalendarDays', WHERE WHAT IT READS IS OF BULK AT MOST 1048576: true; the input reads as it did. -/
def calendarDaysUptoRow : OpenClaim := { program := "ytlgeaeckpogacaagreatdoor", sum := "0140ca867098ba24505525b68774eb113c8dade2502be9daff530c967a3ea538", func := "fasti/fastilaw35.CalendarDays", spec := "calendarDays", inPlace := ["internal/bytealg.IndexByteString", "internal/bytealg.IndexString"], unfollowed := true, recurses := true, named := ["fasti/digest.start", "fasti/digest.numbers", "internal/bytealg.MaxLen", "fasti/days.lengths"], plainKeys := false, apart := false, laid := [("fasti/days.lengths", laid_fasti_days_lengths), ("fasti/digest.start", laid_fasti_digest_start), ("fasti/digest.numbers", laid_fasti_digest_numbers)], narrowed := true }
def CalendarDaysUptoSaid : Prop := calendarDaysUptoRow.holds Tryz.pinned (OpenSpec.upto calendarDaysSpec)

/-- 'fastilaw35.CalendarLess', WHERE WHAT IT READS IS OF BULK AT MOST 1048576: true; the input reads as it did. -/
def calendarLessUptoRow : OpenClaim := { program := "ytlgeaeckpogacaagreatdoor", sum := "0140ca867098ba24505525b68774eb113c8dade2502be9daff530c967a3ea538", func := "fasti/fastilaw35.CalendarLess", spec := "calendarLess", inPlace := ["internal/bytealg.IndexByteString", "internal/bytealg.IndexString"], unfollowed := true, recurses := true, named := ["fasti/digest.start", "fasti/digest.numbers", "internal/bytealg.MaxLen", "fasti/days.lengths"], plainKeys := false, apart := false, laid := [("fasti/days.lengths", laid_fasti_days_lengths), ("fasti/digest.start", laid_fasti_digest_start), ("fasti/digest.numbers", laid_fasti_digest_numbers)], narrowed := true }
def CalendarLessUptoSaid : Prop := calendarLessUptoRow.holds Tryz.pinned (OpenSpec.upto calendarLessSpec)

/-- 'fastilaw35.CalendarConditions', WHERE WHAT IT READS IS OF BULK AT MOST 1048576: true; the input reads as it did. -/
def calendarConditionsUptoRow : OpenClaim := { program := "ytlgeaeckpogacaagreatdoor", sum := "0140ca867098ba24505525b68774eb113c8dade2502be9daff530c967a3ea538", func := "fasti/fastilaw35.CalendarConditions", spec := "calendarConditions", inPlace := ["internal/bytealg.IndexByteString", "internal/bytealg.IndexString"], unfollowed := true, recurses := true, named := ["fasti/digest.start", "fasti/digest.numbers", "internal/bytealg.MaxLen", "fasti/days.lengths"], plainKeys := false, apart := false, laid := [("fasti/days.lengths", laid_fasti_days_lengths), ("fasti/digest.start", laid_fasti_digest_start), ("fasti/digest.numbers", laid_fasti_digest_numbers)], narrowed := true }
def CalendarConditionsUptoSaid : Prop := calendarConditionsUptoRow.holds Tryz.pinned (OpenSpec.upto calendarConditionsSpec)

/-- 'fastilaw35.CalendarMoved', WHERE WHAT IT READS IS OF BULK AT MOST 1048576: true; the input reads as it did. -/
def calendarMovedUptoRow : OpenClaim := { program := "ytlgeaeckpogacaagreatdoor", sum := "0140ca867098ba24505525b68774eb113c8dade2502be9daff530c967a3ea538", func := "fasti/fastilaw35.CalendarMoved", spec := "calendarMoved", inPlace := ["internal/bytealg.IndexByteString", "internal/bytealg.IndexString"], unfollowed := true, recurses := true, named := ["fasti/digest.start", "fasti/digest.numbers", "internal/bytealg.MaxLen", "fasti/days.lengths"], plainKeys := false, apart := false, laid := [("fasti/days.lengths", laid_fasti_days_lengths), ("fasti/digest.start", laid_fasti_digest_start), ("fasti/digest.numbers", laid_fasti_digest_numbers)], narrowed := true }
def CalendarMovedUptoSaid : Prop := calendarMovedUptoRow.holds Tryz.pinned (OpenSpec.upto calendarMovedSpec)

/-- 'fastilaw35.CalendarDigest', WHERE WHAT IT READS IS OF BULK AT MOST 1048576: true; the input reads as it did. -/
def calendarDigestUptoRow : OpenClaim := { program := "ytlgeaeckpogacaagreatdoor", sum := "0140ca867098ba24505525b68774eb113c8dade2502be9daff530c967a3ea538", func := "fasti/fastilaw35.CalendarDigest", spec := "calendarDigest", inPlace := ["internal/bytealg.IndexByteString", "internal/bytealg.IndexString"], unfollowed := true, recurses := true, named := ["fasti/digest.start", "fasti/digest.numbers", "internal/bytealg.MaxLen", "fasti/days.lengths"], plainKeys := false, apart := false, laid := [("fasti/days.lengths", laid_fasti_days_lengths), ("fasti/digest.start", laid_fasti_digest_start), ("fasti/digest.numbers", laid_fasti_digest_numbers)], narrowed := true }
def CalendarDigestUptoSaid : Prop := calendarDigestUptoRow.holds Tryz.pinned (OpenSpec.upto calendarDigestSpec)

end Rows
end Go.Proofs.YtlgeaeckpogacaaGreatDoor
