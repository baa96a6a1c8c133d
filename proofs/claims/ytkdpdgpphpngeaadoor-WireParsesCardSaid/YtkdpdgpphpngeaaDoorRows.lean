/-
  NARROWER THAN 'FOR EVERY INPUT', by the rows' own cells (each row's printed sentence says how): WireRequests: laid · LinkSeals: laid · LinkSizes: laid · WireReplies: laid · LinkOpens: laid · LinkBack: laid · TicketSigns: laid · WireParses: laid · TicketParses: laid · TicketBack: laid · TicketOrders: laid · WireWords: laid · WireBack: laid · TicketSeals: laid.
  DERIVED. THE GIVEN ROWS OF THIS SEAT. 14 by the template 'for every input the law returns true; each argument reads behind the call as it read before'; 0 by the template 'total and deterministic' (their statements: YtkdpdgpphpngeaaDoorTotals.lean).
  GIVEN WITH THE SEED: the statements are not yours to turn. If you find one false, say at which input.
  Laid BY PROGRAM, IN A SANDBOX (cutbox-rows.mjs): the forced cells as the released guide's own fill.sh prints them over the translation d385f48d13de1a98… (all of the seat's roots in one cut). By AI agents, Wed Nov 11 2026. No macro, syntax, notation, axiom, sorry.
-/
import Derived.Test.YtkdpdgpphpngeaaDoorChecked
import GoSem.Claim
import GoSem.ClaimJoined
import GoSem.ClaimMapViews
import Derived.JoinedTies
import Derived.KernelRfl
namespace Go.Proofs.YtkdpdgpphpngeaaDoor
/- THE CELL 'sum', in the pinned program and in every row, IS THE sha256 OF THE DUMP (.gsa) THAT YtkdpdgpphpngeaaDoorProg.lean LOADS. Nothing in Lean hashes anything: it is a label: what it is worth is what the hold of that sum in a sandbox is worth. -/
noncomputable def Tryd.pinned : Pinned := { name := "ytkdpdgpphpngeaadoor", sum := "d385f48d13de1a981bace406aa1863553705cc0580f01b4d4dfc1c09f3579f40", checked := Tryd.checked }
namespace Rows
def none {H : Type} : Left H := { results := [], args := [] }

/- WHAT THE LISTED PACKAGE-LEVEL VARIABLES READ AS WHEN THE CALL BEGINS. Each datum BY PROGRAM (the guide's laid-datum.mjs) off the statement by which the dump's own 'gosem.cut.vars' lays the variable. In a bare row this is a premise. The card (YtkdpdgpphpngeaaDoorCards.lean) ties it to the program's text. -/
def laid_entrust_wire_words {H : Type} : DataW H := .agg [.lit (.string []), .lit (.string [114, 101, 97, 100]), .lit (.string [115, 112, 97, 110]), .lit (.string [99, 104, 97, 110, 103, 101]), .lit (.string [99, 104, 97, 105, 110]), .lit (.string [102, 111, 114, 103, 101, 116])]
def laid_entrust_entrustref02_Constants {H : Type} : DataW H := .agg [.lit (.int .u32 1116352408), .lit (.int .u32 1899447441), .lit (.int .u32 3049323471), .lit (.int .u32 3921009573), .lit (.int .u32 961987163), .lit (.int .u32 1508970993), .lit (.int .u32 2453635748), .lit (.int .u32 2870763221), .lit (.int .u32 3624381080), .lit (.int .u32 310598401), .lit (.int .u32 607225278), .lit (.int .u32 1426881987), .lit (.int .u32 1925078388), .lit (.int .u32 2162078206), .lit (.int .u32 2614888103), .lit (.int .u32 3248222580), .lit (.int .u32 3835390401), .lit (.int .u32 4022224774), .lit (.int .u32 264347078), .lit (.int .u32 604807628), .lit (.int .u32 770255983), .lit (.int .u32 1249150122), .lit (.int .u32 1555081692), .lit (.int .u32 1996064986), .lit (.int .u32 2554220882), .lit (.int .u32 2821834349), .lit (.int .u32 2952996808), .lit (.int .u32 3210313671), .lit (.int .u32 3336571891), .lit (.int .u32 3584528711), .lit (.int .u32 113926993), .lit (.int .u32 338241895), .lit (.int .u32 666307205), .lit (.int .u32 773529912), .lit (.int .u32 1294757372), .lit (.int .u32 1396182291), .lit (.int .u32 1695183700), .lit (.int .u32 1986661051), .lit (.int .u32 2177026350), .lit (.int .u32 2456956037), .lit (.int .u32 2730485921), .lit (.int .u32 2820302411), .lit (.int .u32 3259730800), .lit (.int .u32 3345764771), .lit (.int .u32 3516065817), .lit (.int .u32 3600352804), .lit (.int .u32 4094571909), .lit (.int .u32 275423344), .lit (.int .u32 430227734), .lit (.int .u32 506948616), .lit (.int .u32 659060556), .lit (.int .u32 883997877), .lit (.int .u32 958139571), .lit (.int .u32 1322822218), .lit (.int .u32 1537002063), .lit (.int .u32 1747873779), .lit (.int .u32 1955562222), .lit (.int .u32 2024104815), .lit (.int .u32 2227730452), .lit (.int .u32 2361852424), .lit (.int .u32 2428436474), .lit (.int .u32 2756734187), .lit (.int .u32 3204031479), .lit (.int .u32 3329325298)]
def laid_entrust_entrustref02_Initials {H : Type} : DataW H := .agg [.lit (.int .u32 1779033703), .lit (.int .u32 3144134277), .lit (.int .u32 1013904242), .lit (.int .u32 2773480762), .lit (.int .u32 1359893119), .lit (.int .u32 2600822924), .lit (.int .u32 528734635), .lit (.int .u32 1541459225)]
def laid_entrust_sha_constants {H : Type} : DataW H := .agg [.lit (.int .u32 1116352408), .lit (.int .u32 1899447441), .lit (.int .u32 3049323471), .lit (.int .u32 3921009573), .lit (.int .u32 961987163), .lit (.int .u32 1508970993), .lit (.int .u32 2453635748), .lit (.int .u32 2870763221), .lit (.int .u32 3624381080), .lit (.int .u32 310598401), .lit (.int .u32 607225278), .lit (.int .u32 1426881987), .lit (.int .u32 1925078388), .lit (.int .u32 2162078206), .lit (.int .u32 2614888103), .lit (.int .u32 3248222580), .lit (.int .u32 3835390401), .lit (.int .u32 4022224774), .lit (.int .u32 264347078), .lit (.int .u32 604807628), .lit (.int .u32 770255983), .lit (.int .u32 1249150122), .lit (.int .u32 1555081692), .lit (.int .u32 1996064986), .lit (.int .u32 2554220882), .lit (.int .u32 2821834349), .lit (.int .u32 2952996808), .lit (.int .u32 3210313671), .lit (.int .u32 3336571891), .lit (.int .u32 3584528711), .lit (.int .u32 113926993), .lit (.int .u32 338241895), .lit (.int .u32 666307205), .lit (.int .u32 773529912), .lit (.int .u32 1294757372), .lit (.int .u32 1396182291), .lit (.int .u32 1695183700), .lit (.int .u32 1986661051), .lit (.int .u32 2177026350), .lit (.int .u32 2456956037), .lit (.int .u32 2730485921), .lit (.int .u32 2820302411), .lit (.int .u32 3259730800), .lit (.int .u32 3345764771), .lit (.int .u32 3516065817), .lit (.int .u32 3600352804), .lit (.int .u32 4094571909), .lit (.int .u32 275423344), .lit (.int .u32 430227734), .lit (.int .u32 506948616), .lit (.int .u32 659060556), .lit (.int .u32 883997877), .lit (.int .u32 958139571), .lit (.int .u32 1322822218), .lit (.int .u32 1537002063), .lit (.int .u32 1747873779), .lit (.int .u32 1955562222), .lit (.int .u32 2024104815), .lit (.int .u32 2227730452), .lit (.int .u32 2361852424), .lit (.int .u32 2428436474), .lit (.int .u32 2756734187), .lit (.int .u32 3204031479), .lit (.int .u32 3329325298)]
def laid_entrust_sha_initials {H : Type} : DataW H := .agg [.lit (.int .u32 1779033703), .lit (.int .u32 3144134277), .lit (.int .u32 1013904242), .lit (.int .u32 2773480762), .lit (.int .u32 1359893119), .lit (.int .u32 2600822924), .lit (.int .u32 528734635), .lit (.int .u32 1541459225)]

/-- 'entrustlaw14.WireRequests': WHATEVER THE INPUT: true; the input reads as it did. -/
def wireRequestsSpec : ChangeSpec := { name := "wireRequests", fn := fun _ => fun
  | [d] => { results := [.lit (.bool true)], args := [d] }
  | _ => none }
def wireRequestsRow : OpenClaim := { program := "ytkdpdgpphpngeaadoor", sum := "d385f48d13de1a981bace406aa1863553705cc0580f01b4d4dfc1c09f3579f40", func := "entrust/entrustlaw14.WireRequests", spec := "wireRequests", unfollowed := true, recurses := true, named := ["entrust/wire.words"], apart := false, laid := [("entrust/wire.words", laid_entrust_wire_words)] }
def WireRequestsSaid : Prop := wireRequestsRow.holds Tryd.pinned (OpenSpec.ofChange wireRequestsSpec)

/-- ITS FALSE NEIGHBOUR: 'it returns false'. Refute it at one input. -/
def wireRequestsWrong : ChangeSpec := { name := "wireRequests", fn := fun _ => fun
  | [d] => { results := [.lit (.bool false)], args := [d] }
  | _ => none }
def WireRequestsWrongFalsely : Prop := wireRequestsRow.holds Tryd.pinned (OpenSpec.ofChange wireRequestsWrong)

/-- 'entrustlaw15.LinkSeals': WHATEVER THE INPUT: true; the input reads as it did. -/
def linkSealsSpec : ChangeSpec := { name := "linkSeals", fn := fun _ => fun
  | [d1, d2, d3] => { results := [.lit (.bool true)], args := [d1, d2, d3] }
  | _ => none }
def linkSealsRow : OpenClaim := { program := "ytkdpdgpphpngeaadoor", sum := "d385f48d13de1a981bace406aa1863553705cc0580f01b4d4dfc1c09f3579f40", func := "entrust/entrustlaw15.LinkSeals", spec := "linkSeals", inPlace := ["internal/bytealg.MakeNoZero"], unfollowed := true, recurses := true, named := ["entrust/sha.initials", "entrust/sha.constants", "entrust/entrustref02.Initials", "entrust/entrustref02.Constants"], apart := false, laid := [("entrust/entrustref02.Constants", laid_entrust_entrustref02_Constants), ("entrust/entrustref02.Initials", laid_entrust_entrustref02_Initials), ("entrust/sha.constants", laid_entrust_sha_constants), ("entrust/sha.initials", laid_entrust_sha_initials)] }
def LinkSealsSaid : Prop := linkSealsRow.holds Tryd.pinned (OpenSpec.ofChange linkSealsSpec)

/-- ITS FALSE NEIGHBOUR: 'it returns false'. Refute it at one input. -/
def linkSealsWrong : ChangeSpec := { name := "linkSeals", fn := fun _ => fun
  | [d1, d2, d3] => { results := [.lit (.bool false)], args := [d1, d2, d3] }
  | _ => none }
def LinkSealsWrongFalsely : Prop := linkSealsRow.holds Tryd.pinned (OpenSpec.ofChange linkSealsWrong)

/-- 'entrustlaw15.LinkSizes': WHATEVER THE INPUT: true; the input reads as it did. -/
def linkSizesSpec : ChangeSpec := { name := "linkSizes", fn := fun _ => fun
  | [d] => { results := [.lit (.bool true)], args := [d] }
  | _ => none }
def linkSizesRow : OpenClaim := { program := "ytkdpdgpphpngeaadoor", sum := "d385f48d13de1a981bace406aa1863553705cc0580f01b4d4dfc1c09f3579f40", func := "entrust/entrustlaw15.LinkSizes", spec := "linkSizes", inPlace := ["internal/bytealg.MakeNoZero"], unfollowed := true, recurses := true, named := ["entrust/sha.initials", "entrust/sha.constants"], apart := false, laid := [("entrust/sha.constants", laid_entrust_sha_constants), ("entrust/sha.initials", laid_entrust_sha_initials)] }
def LinkSizesSaid : Prop := linkSizesRow.holds Tryd.pinned (OpenSpec.ofChange linkSizesSpec)

/-- ITS FALSE NEIGHBOUR: 'it returns false'. Refute it at one input. -/
def linkSizesWrong : ChangeSpec := { name := "linkSizes", fn := fun _ => fun
  | [d] => { results := [.lit (.bool false)], args := [d] }
  | _ => none }
def LinkSizesWrongFalsely : Prop := linkSizesRow.holds Tryd.pinned (OpenSpec.ofChange linkSizesWrong)

/-- 'entrustlaw14.WireReplies': WHATEVER THE INPUT: true; the input reads as it did. -/
def wireRepliesSpec : ChangeSpec := { name := "wireReplies", fn := fun _ => fun
  | [d1, d2] => { results := [.lit (.bool true)], args := [d1, d2] }
  | _ => none }
def wireRepliesRow : OpenClaim := { program := "ytkdpdgpphpngeaadoor", sum := "d385f48d13de1a981bace406aa1863553705cc0580f01b4d4dfc1c09f3579f40", func := "entrust/entrustlaw14.WireReplies", spec := "wireReplies", unfollowed := true, recurses := true, named := ["entrust/wire.words"], apart := false, laid := [("entrust/wire.words", laid_entrust_wire_words)] }
def WireRepliesSaid : Prop := wireRepliesRow.holds Tryd.pinned (OpenSpec.ofChange wireRepliesSpec)

/-- ITS FALSE NEIGHBOUR: 'it returns false'. Refute it at one input. -/
def wireRepliesWrong : ChangeSpec := { name := "wireReplies", fn := fun _ => fun
  | [d1, d2] => { results := [.lit (.bool false)], args := [d1, d2] }
  | _ => none }
def WireRepliesWrongFalsely : Prop := wireRepliesRow.holds Tryd.pinned (OpenSpec.ofChange wireRepliesWrong)

/-- 'entrustlaw15.LinkOpens': WHATEVER THE INPUT: true; the input reads as it did. -/
def linkOpensSpec : ChangeSpec := { name := "linkOpens", fn := fun _ => fun
  | [d1, d2, d3] => { results := [.lit (.bool true)], args := [d1, d2, d3] }
  | _ => none }
def linkOpensRow : OpenClaim := { program := "ytkdpdgpphpngeaadoor", sum := "d385f48d13de1a981bace406aa1863553705cc0580f01b4d4dfc1c09f3579f40", func := "entrust/entrustlaw15.LinkOpens", spec := "linkOpens", inPlace := ["internal/bytealg.MakeNoZero"], unfollowed := true, recurses := true, named := ["entrust/sha.initials", "entrust/sha.constants", "entrust/entrustref02.Initials", "entrust/entrustref02.Constants"], apart := false, laid := [("entrust/entrustref02.Constants", laid_entrust_entrustref02_Constants), ("entrust/entrustref02.Initials", laid_entrust_entrustref02_Initials), ("entrust/sha.constants", laid_entrust_sha_constants), ("entrust/sha.initials", laid_entrust_sha_initials)] }
def LinkOpensSaid : Prop := linkOpensRow.holds Tryd.pinned (OpenSpec.ofChange linkOpensSpec)

/-- ITS FALSE NEIGHBOUR: 'it returns false'. Refute it at one input. -/
def linkOpensWrong : ChangeSpec := { name := "linkOpens", fn := fun _ => fun
  | [d1, d2, d3] => { results := [.lit (.bool false)], args := [d1, d2, d3] }
  | _ => none }
def LinkOpensWrongFalsely : Prop := linkOpensRow.holds Tryd.pinned (OpenSpec.ofChange linkOpensWrong)

/-- 'entrustlaw15.LinkBack': WHATEVER THE INPUT: true; the input reads as it did. -/
def linkBackSpec : ChangeSpec := { name := "linkBack", fn := fun _ => fun
  | [d1, d2, d3] => { results := [.lit (.bool true)], args := [d1, d2, d3] }
  | _ => none }
def linkBackRow : OpenClaim := { program := "ytkdpdgpphpngeaadoor", sum := "d385f48d13de1a981bace406aa1863553705cc0580f01b4d4dfc1c09f3579f40", func := "entrust/entrustlaw15.LinkBack", spec := "linkBack", inPlace := ["internal/bytealg.MakeNoZero"], unfollowed := true, recurses := true, named := ["entrust/sha.initials", "entrust/sha.constants", "entrust/entrustref02.Initials", "entrust/entrustref02.Constants"], apart := false, laid := [("entrust/entrustref02.Constants", laid_entrust_entrustref02_Constants), ("entrust/entrustref02.Initials", laid_entrust_entrustref02_Initials), ("entrust/sha.constants", laid_entrust_sha_constants), ("entrust/sha.initials", laid_entrust_sha_initials)] }
def LinkBackSaid : Prop := linkBackRow.holds Tryd.pinned (OpenSpec.ofChange linkBackSpec)

/-- ITS FALSE NEIGHBOUR: 'it returns false'. Refute it at one input. -/
def linkBackWrong : ChangeSpec := { name := "linkBack", fn := fun _ => fun
  | [d1, d2, d3] => { results := [.lit (.bool false)], args := [d1, d2, d3] }
  | _ => none }
def LinkBackWrongFalsely : Prop := linkBackRow.holds Tryd.pinned (OpenSpec.ofChange linkBackWrong)

/-- 'entrustlaw13.TicketSigns': WHATEVER THE INPUT: true; the input reads as it did. -/
def ticketSignsSpec : ChangeSpec := { name := "ticketSigns", fn := fun _ => fun
  | [d1, d2] => { results := [.lit (.bool true)], args := [d1, d2] }
  | _ => none }
def ticketSignsRow : OpenClaim := { program := "ytkdpdgpphpngeaadoor", sum := "d385f48d13de1a981bace406aa1863553705cc0580f01b4d4dfc1c09f3579f40", func := "entrust/entrustlaw13.TicketSigns", spec := "ticketSigns", inPlace := ["internal/bytealg.MakeNoZero"], unfollowed := true, recurses := true, named := ["entrust/sha.initials", "entrust/sha.constants", "entrust/entrustref02.Initials", "entrust/entrustref02.Constants"], apart := false, laid := [("entrust/entrustref02.Constants", laid_entrust_entrustref02_Constants), ("entrust/entrustref02.Initials", laid_entrust_entrustref02_Initials), ("entrust/sha.constants", laid_entrust_sha_constants), ("entrust/sha.initials", laid_entrust_sha_initials)] }
def TicketSignsSaid : Prop := ticketSignsRow.holds Tryd.pinned (OpenSpec.ofChange ticketSignsSpec)

/-- ITS FALSE NEIGHBOUR: 'it returns false'. Refute it at one input. -/
def ticketSignsWrong : ChangeSpec := { name := "ticketSigns", fn := fun _ => fun
  | [d1, d2] => { results := [.lit (.bool false)], args := [d1, d2] }
  | _ => none }
def TicketSignsWrongFalsely : Prop := ticketSignsRow.holds Tryd.pinned (OpenSpec.ofChange ticketSignsWrong)

/-- 'entrustlaw14.WireParses': WHATEVER THE INPUT: true; the input reads as it did. -/
def wireParsesSpec : ChangeSpec := { name := "wireParses", fn := fun _ => fun
  | [d] => { results := [.lit (.bool true)], args := [d] }
  | _ => none }
def wireParsesRow : OpenClaim := { program := "ytkdpdgpphpngeaadoor", sum := "d385f48d13de1a981bace406aa1863553705cc0580f01b4d4dfc1c09f3579f40", func := "entrust/entrustlaw14.WireParses", spec := "wireParses", unfollowed := true, recurses := true, named := ["entrust/wire.words"], apart := false, laid := [("entrust/wire.words", laid_entrust_wire_words)] }
def WireParsesSaid : Prop := wireParsesRow.holds Tryd.pinned (OpenSpec.ofChange wireParsesSpec)

/-- ITS FALSE NEIGHBOUR: 'it returns false'. Refute it at one input. -/
def wireParsesWrong : ChangeSpec := { name := "wireParses", fn := fun _ => fun
  | [d] => { results := [.lit (.bool false)], args := [d] }
  | _ => none }
def WireParsesWrongFalsely : Prop := wireParsesRow.holds Tryd.pinned (OpenSpec.ofChange wireParsesWrong)

/-- 'entrustlaw13.TicketParses': WHATEVER THE INPUT: true; the input reads as it did. -/
def ticketParsesSpec : ChangeSpec := { name := "ticketParses", fn := fun _ => fun
  | [d] => { results := [.lit (.bool true)], args := [d] }
  | _ => none }
def ticketParsesRow : OpenClaim := { program := "ytkdpdgpphpngeaadoor", sum := "d385f48d13de1a981bace406aa1863553705cc0580f01b4d4dfc1c09f3579f40", func := "entrust/entrustlaw13.TicketParses", spec := "ticketParses", inPlace := ["internal/bytealg.MakeNoZero"], unfollowed := true, recurses := true, named := ["entrust/sha.initials", "entrust/sha.constants"], apart := false, laid := [("entrust/sha.constants", laid_entrust_sha_constants), ("entrust/sha.initials", laid_entrust_sha_initials)] }
def TicketParsesSaid : Prop := ticketParsesRow.holds Tryd.pinned (OpenSpec.ofChange ticketParsesSpec)

/-- ITS FALSE NEIGHBOUR: 'it returns false'. Refute it at one input. -/
def ticketParsesWrong : ChangeSpec := { name := "ticketParses", fn := fun _ => fun
  | [d] => { results := [.lit (.bool false)], args := [d] }
  | _ => none }
def TicketParsesWrongFalsely : Prop := ticketParsesRow.holds Tryd.pinned (OpenSpec.ofChange ticketParsesWrong)

/-- 'entrustlaw13.TicketBack': WHATEVER THE INPUT: true; the input reads as it did. -/
def ticketBackSpec : ChangeSpec := { name := "ticketBack", fn := fun _ => fun
  | [d1, d2, d3] => { results := [.lit (.bool true)], args := [d1, d2, d3] }
  | _ => none }
def ticketBackRow : OpenClaim := { program := "ytkdpdgpphpngeaadoor", sum := "d385f48d13de1a981bace406aa1863553705cc0580f01b4d4dfc1c09f3579f40", func := "entrust/entrustlaw13.TicketBack", spec := "ticketBack", inPlace := ["internal/bytealg.MakeNoZero"], unfollowed := true, recurses := true, named := ["entrust/sha.initials", "entrust/sha.constants", "entrust/entrustref02.Initials", "entrust/entrustref02.Constants"], apart := false, laid := [("entrust/entrustref02.Constants", laid_entrust_entrustref02_Constants), ("entrust/entrustref02.Initials", laid_entrust_entrustref02_Initials), ("entrust/sha.constants", laid_entrust_sha_constants), ("entrust/sha.initials", laid_entrust_sha_initials)] }
def TicketBackSaid : Prop := ticketBackRow.holds Tryd.pinned (OpenSpec.ofChange ticketBackSpec)

/-- ITS FALSE NEIGHBOUR: 'it returns false'. Refute it at one input. -/
def ticketBackWrong : ChangeSpec := { name := "ticketBack", fn := fun _ => fun
  | [d1, d2, d3] => { results := [.lit (.bool false)], args := [d1, d2, d3] }
  | _ => none }
def TicketBackWrongFalsely : Prop := ticketBackRow.holds Tryd.pinned (OpenSpec.ofChange ticketBackWrong)

/-- 'entrustlaw13.TicketOrders': WHATEVER THE INPUT: true; the input reads as it did. -/
def ticketOrdersSpec : ChangeSpec := { name := "ticketOrders", fn := fun _ => fun
  | [d1, d2] => { results := [.lit (.bool true)], args := [d1, d2] }
  | _ => none }
def ticketOrdersRow : OpenClaim := { program := "ytkdpdgpphpngeaadoor", sum := "d385f48d13de1a981bace406aa1863553705cc0580f01b4d4dfc1c09f3579f40", func := "entrust/entrustlaw13.TicketOrders", spec := "ticketOrders", inPlace := ["internal/bytealg.MakeNoZero"], unfollowed := true, recurses := true, named := ["entrust/sha.initials", "entrust/sha.constants", "entrust/entrustref02.Initials", "entrust/entrustref02.Constants"], apart := false, laid := [("entrust/entrustref02.Constants", laid_entrust_entrustref02_Constants), ("entrust/entrustref02.Initials", laid_entrust_entrustref02_Initials), ("entrust/sha.constants", laid_entrust_sha_constants), ("entrust/sha.initials", laid_entrust_sha_initials)] }
def TicketOrdersSaid : Prop := ticketOrdersRow.holds Tryd.pinned (OpenSpec.ofChange ticketOrdersSpec)

/-- ITS FALSE NEIGHBOUR: 'it returns false'. Refute it at one input. -/
def ticketOrdersWrong : ChangeSpec := { name := "ticketOrders", fn := fun _ => fun
  | [d1, d2] => { results := [.lit (.bool false)], args := [d1, d2] }
  | _ => none }
def TicketOrdersWrongFalsely : Prop := ticketOrdersRow.holds Tryd.pinned (OpenSpec.ofChange ticketOrdersWrong)

/-- 'entrustlaw14.WireWords': WHATEVER THE INPUT: true; the input reads as it did. -/
def wireWordsSpec : ChangeSpec := { name := "wireWords", fn := fun _ => fun
  | [d1, d2] => { results := [.lit (.bool true)], args := [d1, d2] }
  | _ => none }
def wireWordsRow : OpenClaim := { program := "ytkdpdgpphpngeaadoor", sum := "d385f48d13de1a981bace406aa1863553705cc0580f01b4d4dfc1c09f3579f40", func := "entrust/entrustlaw14.WireWords", spec := "wireWords", unfollowed := true, recurses := true, named := ["entrust/wire.words"], apart := false, laid := [("entrust/wire.words", laid_entrust_wire_words)] }
def WireWordsSaid : Prop := wireWordsRow.holds Tryd.pinned (OpenSpec.ofChange wireWordsSpec)

/-- ITS FALSE NEIGHBOUR: 'it returns false'. Refute it at one input. -/
def wireWordsWrong : ChangeSpec := { name := "wireWords", fn := fun _ => fun
  | [d1, d2] => { results := [.lit (.bool false)], args := [d1, d2] }
  | _ => none }
def WireWordsWrongFalsely : Prop := wireWordsRow.holds Tryd.pinned (OpenSpec.ofChange wireWordsWrong)

/-- 'entrustlaw14.WireBack': WHATEVER THE INPUT: true; the input reads as it did. -/
def wireBackSpec : ChangeSpec := { name := "wireBack", fn := fun _ => fun
  | [d1, d2] => { results := [.lit (.bool true)], args := [d1, d2] }
  | _ => none }
def wireBackRow : OpenClaim := { program := "ytkdpdgpphpngeaadoor", sum := "d385f48d13de1a981bace406aa1863553705cc0580f01b4d4dfc1c09f3579f40", func := "entrust/entrustlaw14.WireBack", spec := "wireBack", unfollowed := true, recurses := true, named := ["entrust/wire.words"], apart := false, laid := [("entrust/wire.words", laid_entrust_wire_words)] }
def WireBackSaid : Prop := wireBackRow.holds Tryd.pinned (OpenSpec.ofChange wireBackSpec)

/-- ITS FALSE NEIGHBOUR: 'it returns false'. Refute it at one input. -/
def wireBackWrong : ChangeSpec := { name := "wireBack", fn := fun _ => fun
  | [d1, d2] => { results := [.lit (.bool false)], args := [d1, d2] }
  | _ => none }
def WireBackWrongFalsely : Prop := wireBackRow.holds Tryd.pinned (OpenSpec.ofChange wireBackWrong)

/-- 'entrustlaw13.TicketSeals': WHATEVER THE INPUT: true; the input reads as it did. -/
def ticketSealsSpec : ChangeSpec := { name := "ticketSeals", fn := fun _ => fun
  | [d1, d2, d3] => { results := [.lit (.bool true)], args := [d1, d2, d3] }
  | _ => none }
def ticketSealsRow : OpenClaim := { program := "ytkdpdgpphpngeaadoor", sum := "d385f48d13de1a981bace406aa1863553705cc0580f01b4d4dfc1c09f3579f40", func := "entrust/entrustlaw13.TicketSeals", spec := "ticketSeals", inPlace := ["internal/bytealg.MakeNoZero"], unfollowed := true, recurses := true, named := ["entrust/sha.initials", "entrust/sha.constants", "entrust/entrustref02.Initials", "entrust/entrustref02.Constants"], apart := false, laid := [("entrust/entrustref02.Constants", laid_entrust_entrustref02_Constants), ("entrust/entrustref02.Initials", laid_entrust_entrustref02_Initials), ("entrust/sha.constants", laid_entrust_sha_constants), ("entrust/sha.initials", laid_entrust_sha_initials)] }
def TicketSealsSaid : Prop := ticketSealsRow.holds Tryd.pinned (OpenSpec.ofChange ticketSealsSpec)

/-- ITS FALSE NEIGHBOUR: 'it returns false'. Refute it at one input. -/
def ticketSealsWrong : ChangeSpec := { name := "ticketSeals", fn := fun _ => fun
  | [d1, d2, d3] => { results := [.lit (.bool false)], args := [d1, d2, d3] }
  | _ => none }
def TicketSealsWrongFalsely : Prop := ticketSealsRow.holds Tryd.pinned (OpenSpec.ofChange ticketSealsWrong)

/- THE SECOND FORM. 'bulk': how many values and letters a reading holds, each counted each time it is reached (what is shared counts as often as it is met; a slice's spare places count too). A statement '..UptoSaid' is the law's where the arguments, and the package variables that the reading takes, are together of bulk at most 1048576: NARROWER than '..Said'. Prove '..Said' where nothing that the law and all that it calls make is longer than what came in: it says more and counts as full. Else prove '..UptoSaid'. A law counts once. -/
mutual
def uptoBulk {H : Type} : DataW H → Nat
  | .lit (.string bytes) => bytes.length + 1
  | .lit _ => 1
  | .nil => 1
  | .ptr d => uptoBulk d + 1
  | .slice elems spare => uptoBulkAll elems + uptoBulkAll spare + 1
  | .agg parts => uptoBulkAll parts + 1
  | .iface _ d => uptoBulk d + 1
  | .map entries => uptoBulkEntries entries + 1
  | .held _ => 1
def uptoBulkAll {H : Type} : List (DataW H) → Nat
  | [] => 0
  | d :: r => uptoBulk d + uptoBulkAll r
def uptoBulkEntries {H : Type} : List (Lit × DataW H) → Nat
  | [] => 0
  | x :: r => uptoBulkEntry x + uptoBulkEntries r
def uptoBulkEntry {H : Type} : Lit × DataW H → Nat
  | (.string bytes, d) => bytes.length + uptoBulk d + 1
  | (_, d) => uptoBulk d + 1
 end
def uptoSmall : (H : Type) → List (DataW H) → Bool := fun _ ds => decide (uptoBulkAll ds ≤ 1048576)
def OpenSpec.upto (s : _root_.Go.ChangeSpec) : _root_.Go.OpenSpec := { _root_.Go.OpenSpec.ofChange s with cond := some uptoSmall }

/-- 'entrustlaw14.WireRequests', WHERE WHAT IT READS IS OF BULK AT MOST 1048576: true; the input reads as it did. -/
def wireRequestsUptoRow : OpenClaim := { program := "ytkdpdgpphpngeaadoor", sum := "d385f48d13de1a981bace406aa1863553705cc0580f01b4d4dfc1c09f3579f40", func := "entrust/entrustlaw14.WireRequests", spec := "wireRequests", unfollowed := true, recurses := true, named := ["entrust/wire.words"], apart := false, laid := [("entrust/wire.words", laid_entrust_wire_words)], narrowed := true }
def WireRequestsUptoSaid : Prop := wireRequestsUptoRow.holds Tryd.pinned (OpenSpec.upto wireRequestsSpec)

/-- 'entrustlaw15.LinkSeals', WHERE WHAT IT READS IS OF BULK AT MOST 1048576: true; the input reads as it did. -/
def linkSealsUptoRow : OpenClaim := { program := "ytkdpdgpphpngeaadoor", sum := "d385f48d13de1a981bace406aa1863553705cc0580f01b4d4dfc1c09f3579f40", func := "entrust/entrustlaw15.LinkSeals", spec := "linkSeals", inPlace := ["internal/bytealg.MakeNoZero"], unfollowed := true, recurses := true, named := ["entrust/sha.initials", "entrust/sha.constants", "entrust/entrustref02.Initials", "entrust/entrustref02.Constants"], apart := false, laid := [("entrust/entrustref02.Constants", laid_entrust_entrustref02_Constants), ("entrust/entrustref02.Initials", laid_entrust_entrustref02_Initials), ("entrust/sha.constants", laid_entrust_sha_constants), ("entrust/sha.initials", laid_entrust_sha_initials)], narrowed := true }
def LinkSealsUptoSaid : Prop := linkSealsUptoRow.holds Tryd.pinned (OpenSpec.upto linkSealsSpec)

/-- 'entrustlaw15.LinkSizes', WHERE WHAT IT READS IS OF BULK AT MOST 1048576: true; the input reads as it did. -/
def linkSizesUptoRow : OpenClaim := { program := "ytkdpdgpphpngeaadoor", sum := "d385f48d13de1a981bace406aa1863553705cc0580f01b4d4dfc1c09f3579f40", func := "entrust/entrustlaw15.LinkSizes", spec := "linkSizes", inPlace := ["internal/bytealg.MakeNoZero"], unfollowed := true, recurses := true, named := ["entrust/sha.initials", "entrust/sha.constants"], apart := false, laid := [("entrust/sha.constants", laid_entrust_sha_constants), ("entrust/sha.initials", laid_entrust_sha_initials)], narrowed := true }
def LinkSizesUptoSaid : Prop := linkSizesUptoRow.holds Tryd.pinned (OpenSpec.upto linkSizesSpec)

/-- 'entrustlaw14.WireReplies', WHERE WHAT IT READS IS OF BULK AT MOST 1048576: true; the input reads as it did. -/
def wireRepliesUptoRow : OpenClaim := { program := "ytkdpdgpphpngeaadoor", sum := "d385f48d13de1a981bace406aa1863553705cc0580f01b4d4dfc1c09f3579f40", func := "entrust/entrustlaw14.WireReplies", spec := "wireReplies", unfollowed := true, recurses := true, named := ["entrust/wire.words"], apart := false, laid := [("entrust/wire.words", laid_entrust_wire_words)], narrowed := true }
def WireRepliesUptoSaid : Prop := wireRepliesUptoRow.holds Tryd.pinned (OpenSpec.upto wireRepliesSpec)

/-- 'entrustlaw15.LinkOpens', WHERE WHAT IT READS IS OF BULK AT MOST 1048576: true; the input reads as it did. -/
def linkOpensUptoRow : OpenClaim := { program := "ytkdpdgpphpngeaadoor", sum := "d385f48d13de1a981bace406aa1863553705cc0580f01b4d4dfc1c09f3579f40", func := "entrust/entrustlaw15.LinkOpens", spec := "linkOpens", inPlace := ["internal/bytealg.MakeNoZero"], unfollowed := true, recurses := true, named := ["entrust/sha.initials", "entrust/sha.constants", "entrust/entrustref02.Initials", "entrust/entrustref02.Constants"], apart := false, laid := [("entrust/entrustref02.Constants", laid_entrust_entrustref02_Constants), ("entrust/entrustref02.Initials", laid_entrust_entrustref02_Initials), ("entrust/sha.constants", laid_entrust_sha_constants), ("entrust/sha.initials", laid_entrust_sha_initials)], narrowed := true }
def LinkOpensUptoSaid : Prop := linkOpensUptoRow.holds Tryd.pinned (OpenSpec.upto linkOpensSpec)

/-- 'entrustlaw15.LinkBack', WHERE WHAT IT READS IS OF BULK AT MOST 1048576: true; the input reads as it did. -/
def linkBackUptoRow : OpenClaim := { program := "ytkdpdgpphpngeaadoor", sum := "d385f48d13de1a981bace406aa1863553705cc0580f01b4d4dfc1c09f3579f40", func := "entrust/entrustlaw15.LinkBack", spec := "linkBack", inPlace := ["internal/bytealg.MakeNoZero"], unfollowed := true, recurses := true, named := ["entrust/sha.initials", "entrust/sha.constants", "entrust/entrustref02.Initials", "entrust/entrustref02.Constants"], apart := false, laid := [("entrust/entrustref02.Constants", laid_entrust_entrustref02_Constants), ("entrust/entrustref02.Initials", laid_entrust_entrustref02_Initials), ("entrust/sha.constants", laid_entrust_sha_constants), ("entrust/sha.initials", laid_entrust_sha_initials)], narrowed := true }
def LinkBackUptoSaid : Prop := linkBackUptoRow.holds Tryd.pinned (OpenSpec.upto linkBackSpec)

/-- 'entrustlaw13.TicketSigns', WHERE WHAT IT READS IS OF BULK AT MOST 1048576: true; the input reads as it did. -/
def ticketSignsUptoRow : OpenClaim := { program := "ytkdpdgpphpngeaadoor", sum := "d385f48d13de1a981bace406aa1863553705cc0580f01b4d4dfc1c09f3579f40", func := "entrust/entrustlaw13.TicketSigns", spec := "ticketSigns", inPlace := ["internal/bytealg.MakeNoZero"], unfollowed := true, recurses := true, named := ["entrust/sha.initials", "entrust/sha.constants", "entrust/entrustref02.Initials", "entrust/entrustref02.Constants"], apart := false, laid := [("entrust/entrustref02.Constants", laid_entrust_entrustref02_Constants), ("entrust/entrustref02.Initials", laid_entrust_entrustref02_Initials), ("entrust/sha.constants", laid_entrust_sha_constants), ("entrust/sha.initials", laid_entrust_sha_initials)], narrowed := true }
def TicketSignsUptoSaid : Prop := ticketSignsUptoRow.holds Tryd.pinned (OpenSpec.upto ticketSignsSpec)

/-- 'entrustlaw14.WireParses', WHERE WHAT IT READS IS OF BULK AT MOST 1048576: true; the input reads as it did. -/
def wireParsesUptoRow : OpenClaim := { program := "ytkdpdgpphpngeaadoor", sum := "d385f48d13de1a981bace406aa1863553705cc0580f01b4d4dfc1c09f3579f40", func := "entrust/entrustlaw14.WireParses", spec := "wireParses", unfollowed := true, recurses := true, named := ["entrust/wire.words"], apart := false, laid := [("entrust/wire.words", laid_entrust_wire_words)], narrowed := true }
def WireParsesUptoSaid : Prop := wireParsesUptoRow.holds Tryd.pinned (OpenSpec.upto wireParsesSpec)

/-- 'entrustlaw13.TicketParses', WHERE WHAT IT READS IS OF BULK AT MOST 1048576: true; the input reads as it did. -/
def ticketParsesUptoRow : OpenClaim := { program := "ytkdpdgpphpngeaadoor", sum := "d385f48d13de1a981bace406aa1863553705cc0580f01b4d4dfc1c09f3579f40", func := "entrust/entrustlaw13.TicketParses", spec := "ticketParses", inPlace := ["internal/bytealg.MakeNoZero"], unfollowed := true, recurses := true, named := ["entrust/sha.initials", "entrust/sha.constants"], apart := false, laid := [("entrust/sha.constants", laid_entrust_sha_constants), ("entrust/sha.initials", laid_entrust_sha_initials)], narrowed := true }
def TicketParsesUptoSaid : Prop := ticketParsesUptoRow.holds Tryd.pinned (OpenSpec.upto ticketParsesSpec)

/-- 'entrustlaw13.TicketBack', WHERE WHAT IT READS IS OF BULK AT MOST 1048576: true; the input reads as it did. -/
def ticketBackUptoRow : OpenClaim := { program := "ytkdpdgpphpngeaadoor", sum := "d385f48d13de1a981bace406aa1863553705cc0580f01b4d4dfc1c09f3579f40", func := "entrust/entrustlaw13.TicketBack", spec := "ticketBack", inPlace := ["internal/bytealg.MakeNoZero"], unfollowed := true, recurses := true, named := ["entrust/sha.initials", "entrust/sha.constants", "entrust/entrustref02.Initials", "entrust/entrustref02.Constants"], apart := false, laid := [("entrust/entrustref02.Constants", laid_entrust_entrustref02_Constants), ("entrust/entrustref02.Initials", laid_entrust_entrustref02_Initials), ("entrust/sha.constants", laid_entrust_sha_constants), ("entrust/sha.initials", laid_entrust_sha_initials)], narrowed := true }
def TicketBackUptoSaid : Prop := ticketBackUptoRow.holds Tryd.pinned (OpenSpec.upto ticketBackSpec)

/-- 'entrustlaw13.TicketOrders', WHERE WHAT IT READS IS OF BULK AT MOST 1048576: true; the input reads as it did. -/
def ticketOrdersUptoRow : OpenClaim := { program := "ytkdpdgpphpngeaadoor", sum := "d385f48d13de1a981bace406aa1863553705cc0580f01b4d4dfc1c09f3579f40", func := "entrust/entrustlaw13.TicketOrders", spec := "ticketOrders", inPlace := ["internal/bytealg.MakeNoZero"], unfollowed := true, recurses := true, named := ["entrust/sha.initials", "entrust/sha.constants", "entrust/entrustref02.Initials", "entrust/entrustref02.Constants"], apart := false, laid := [("entrust/entrustref02.Constants", laid_entrust_entrustref02_Constants), ("entrust/entrustref02.Initials", laid_entrust_entrustref02_Initials), ("entrust/sha.constants", laid_entrust_sha_constants), ("entrust/sha.initials", laid_entrust_sha_initials)], narrowed := true }
def TicketOrdersUptoSaid : Prop := ticketOrdersUptoRow.holds Tryd.pinned (OpenSpec.upto ticketOrdersSpec)

/-- 'entrustlaw14.WireWords', WHERE WHAT IT READS IS OF BULK AT MOST 1048576: true; the input reads as it did. -/
def wireWordsUptoRow : OpenClaim := { program := "ytkdpdgpphpngeaadoor", sum := "d385f48d13de1a981bace406aa1863553705cc0580f01b4d4dfc1c09f3579f40", func := "entrust/entrustlaw14.WireWords", spec := "wireWords", unfollowed := true, recurses := true, named := ["entrust/wire.words"], apart := false, laid := [("entrust/wire.words", laid_entrust_wire_words)], narrowed := true }
def WireWordsUptoSaid : Prop := wireWordsUptoRow.holds Tryd.pinned (OpenSpec.upto wireWordsSpec)

/-- 'entrustlaw14.WireBack', WHERE WHAT IT READS IS OF BULK AT MOST 1048576: true; the input reads as it did. -/
def wireBackUptoRow : OpenClaim := { program := "ytkdpdgpphpngeaadoor", sum := "d385f48d13de1a981bace406aa1863553705cc0580f01b4d4dfc1c09f3579f40", func := "entrust/entrustlaw14.WireBack", spec := "wireBack", unfollowed := true, recurses := true, named := ["entrust/wire.words"], apart := false, laid := [("entrust/wire.words", laid_entrust_wire_words)], narrowed := true }
def WireBackUptoSaid : Prop := wireBackUptoRow.holds Tryd.pinned (OpenSpec.upto wireBackSpec)

/-- 'entrustlaw13.TicketSeals', WHERE WHAT IT READS IS OF BULK AT MOST 1048576: true; the input reads as it did. -/
def ticketSealsUptoRow : OpenClaim := { program := "ytkdpdgpphpngeaadoor", sum := "d385f48d13de1a981bace406aa1863553705cc0580f01b4d4dfc1c09f3579f40", func := "entrust/entrustlaw13.TicketSeals", spec := "ticketSeals", inPlace := ["internal/bytealg.MakeNoZero"], unfollowed := true, recurses := true, named := ["entrust/sha.initials", "entrust/sha.constants", "entrust/entrustref02.Initials", "entrust/entrustref02.Constants"], apart := false, laid := [("entrust/entrustref02.Constants", laid_entrust_entrustref02_Constants), ("entrust/entrustref02.Initials", laid_entrust_entrustref02_Initials), ("entrust/sha.constants", laid_entrust_sha_constants), ("entrust/sha.initials", laid_entrust_sha_initials)], narrowed := true }
def TicketSealsUptoSaid : Prop := ticketSealsUptoRow.holds Tryd.pinned (OpenSpec.upto ticketSealsSpec)

end Rows
end Go.Proofs.YtkdpdgpphpngeaaDoor
