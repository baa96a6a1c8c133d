/-
  NARROWER THAN 'FOR EVERY INPUT', by the rows' own cells (each row's printed sentence says how): ShaSums: laid · ShaBlocks: laid · ShaParts: laid · ShaRoots: laid · HmacSames: laid · HmacMacs: laid · HmacChecks: laid · HmacTurns: laid · KeysLabels: laid · KeysOf: laid · KeysApart: laid · SealSeals: laid · SealOpens: laid · SealApart: laid · SealBack: laid · NodeJoins: laid · NodeKinds: laid · NodeApart: laid · NodeLeaves: laid.
  DERIVED. THE GIVEN ROWS OF THIS SEAT. 19 by the template 'for every input the law returns true; each argument reads behind the call as it read before'; 0 by the template 'total and deterministic' (their statements: YtncoifiafklkjaaDoorTotals.lean).
  GIVEN WITH THE SEED: the statements are not yours to turn. If you find one false, say at which input.
  Laid BY PROGRAM, IN A SANDBOX (cutbox-rows.mjs): the forced cells as the released guide's own fill.sh prints them over the translation 9c73e24a913f8908… (all of the seat's roots in one cut). By AI agents, Wed Nov 11 2026. No macro, syntax, notation, axiom, sorry.
-/
import Derived.Test.YtncoifiafklkjaaDoorChecked
import GoSem.Claim
import GoSem.ClaimJoined
import GoSem.ClaimMapViews
import Derived.JoinedTies
import Derived.KernelRfl
namespace Go.Proofs.YtncoifiafklkjaaDoor
/- THE CELL 'sum', in the pinned program and in every row, IS THE sha256 OF THE DUMP (.gsa) THAT YtncoifiafklkjaaDoorProg.lean LOADS. Nothing in Lean hashes anything: it is a label: what it is worth is what the hold of that sum in a sandbox is worth. -/
noncomputable def Tryd.pinned : Pinned := { name := "ytncoifiafklkjaadoor", sum := "9c73e24a913f890803636f2a45c58cb61f8c006b9b86bc1151b3a100a69ab34f", checked := Tryd.checked }
namespace Rows
def none {H : Type} : Left H := { results := [], args := [] }

/- WHAT THE LISTED PACKAGE-LEVEL VARIABLES READ AS WHEN THE CALL BEGINS. Each datum BY PROGRAM (the guide's laid-datum.mjs) off the statement by which the dump's own 'gosem.cut.vars' lays the variable. In a bare row this is a premise. The card (YtncoifiafklkjaaDoorCards.lean) ties it to the program's text. -/
def laid_entrust_entrustref02_Constants {H : Type} : DataW H := .agg [.lit (.int .u32 1116352408), .lit (.int .u32 1899447441), .lit (.int .u32 3049323471), .lit (.int .u32 3921009573), .lit (.int .u32 961987163), .lit (.int .u32 1508970993), .lit (.int .u32 2453635748), .lit (.int .u32 2870763221), .lit (.int .u32 3624381080), .lit (.int .u32 310598401), .lit (.int .u32 607225278), .lit (.int .u32 1426881987), .lit (.int .u32 1925078388), .lit (.int .u32 2162078206), .lit (.int .u32 2614888103), .lit (.int .u32 3248222580), .lit (.int .u32 3835390401), .lit (.int .u32 4022224774), .lit (.int .u32 264347078), .lit (.int .u32 604807628), .lit (.int .u32 770255983), .lit (.int .u32 1249150122), .lit (.int .u32 1555081692), .lit (.int .u32 1996064986), .lit (.int .u32 2554220882), .lit (.int .u32 2821834349), .lit (.int .u32 2952996808), .lit (.int .u32 3210313671), .lit (.int .u32 3336571891), .lit (.int .u32 3584528711), .lit (.int .u32 113926993), .lit (.int .u32 338241895), .lit (.int .u32 666307205), .lit (.int .u32 773529912), .lit (.int .u32 1294757372), .lit (.int .u32 1396182291), .lit (.int .u32 1695183700), .lit (.int .u32 1986661051), .lit (.int .u32 2177026350), .lit (.int .u32 2456956037), .lit (.int .u32 2730485921), .lit (.int .u32 2820302411), .lit (.int .u32 3259730800), .lit (.int .u32 3345764771), .lit (.int .u32 3516065817), .lit (.int .u32 3600352804), .lit (.int .u32 4094571909), .lit (.int .u32 275423344), .lit (.int .u32 430227734), .lit (.int .u32 506948616), .lit (.int .u32 659060556), .lit (.int .u32 883997877), .lit (.int .u32 958139571), .lit (.int .u32 1322822218), .lit (.int .u32 1537002063), .lit (.int .u32 1747873779), .lit (.int .u32 1955562222), .lit (.int .u32 2024104815), .lit (.int .u32 2227730452), .lit (.int .u32 2361852424), .lit (.int .u32 2428436474), .lit (.int .u32 2756734187), .lit (.int .u32 3204031479), .lit (.int .u32 3329325298)]
def laid_entrust_entrustref02_Initials {H : Type} : DataW H := .agg [.lit (.int .u32 1779033703), .lit (.int .u32 3144134277), .lit (.int .u32 1013904242), .lit (.int .u32 2773480762), .lit (.int .u32 1359893119), .lit (.int .u32 2600822924), .lit (.int .u32 528734635), .lit (.int .u32 1541459225)]
def laid_entrust_sha_constants {H : Type} : DataW H := .agg [.lit (.int .u32 1116352408), .lit (.int .u32 1899447441), .lit (.int .u32 3049323471), .lit (.int .u32 3921009573), .lit (.int .u32 961987163), .lit (.int .u32 1508970993), .lit (.int .u32 2453635748), .lit (.int .u32 2870763221), .lit (.int .u32 3624381080), .lit (.int .u32 310598401), .lit (.int .u32 607225278), .lit (.int .u32 1426881987), .lit (.int .u32 1925078388), .lit (.int .u32 2162078206), .lit (.int .u32 2614888103), .lit (.int .u32 3248222580), .lit (.int .u32 3835390401), .lit (.int .u32 4022224774), .lit (.int .u32 264347078), .lit (.int .u32 604807628), .lit (.int .u32 770255983), .lit (.int .u32 1249150122), .lit (.int .u32 1555081692), .lit (.int .u32 1996064986), .lit (.int .u32 2554220882), .lit (.int .u32 2821834349), .lit (.int .u32 2952996808), .lit (.int .u32 3210313671), .lit (.int .u32 3336571891), .lit (.int .u32 3584528711), .lit (.int .u32 113926993), .lit (.int .u32 338241895), .lit (.int .u32 666307205), .lit (.int .u32 773529912), .lit (.int .u32 1294757372), .lit (.int .u32 1396182291), .lit (.int .u32 1695183700), .lit (.int .u32 1986661051), .lit (.int .u32 2177026350), .lit (.int .u32 2456956037), .lit (.int .u32 2730485921), .lit (.int .u32 2820302411), .lit (.int .u32 3259730800), .lit (.int .u32 3345764771), .lit (.int .u32 3516065817), .lit (.int .u32 3600352804), .lit (.int .u32 4094571909), .lit (.int .u32 275423344), .lit (.int .u32 430227734), .lit (.int .u32 506948616), .lit (.int .u32 659060556), .lit (.int .u32 883997877), .lit (.int .u32 958139571), .lit (.int .u32 1322822218), .lit (.int .u32 1537002063), .lit (.int .u32 1747873779), .lit (.int .u32 1955562222), .lit (.int .u32 2024104815), .lit (.int .u32 2227730452), .lit (.int .u32 2361852424), .lit (.int .u32 2428436474), .lit (.int .u32 2756734187), .lit (.int .u32 3204031479), .lit (.int .u32 3329325298)]
def laid_entrust_sha_initials {H : Type} : DataW H := .agg [.lit (.int .u32 1779033703), .lit (.int .u32 3144134277), .lit (.int .u32 1013904242), .lit (.int .u32 2773480762), .lit (.int .u32 1359893119), .lit (.int .u32 2600822924), .lit (.int .u32 528734635), .lit (.int .u32 1541459225)]

/-- 'entrustlaw02.ShaSums': WHATEVER THE INPUT: true; the input reads as it did. -/
def shaSumsSpec : ChangeSpec := { name := "shaSums", fn := fun _ => fun
  | [d] => { results := [.lit (.bool true)], args := [d] }
  | _ => none }
def shaSumsRow : OpenClaim := { program := "ytncoifiafklkjaadoor", sum := "9c73e24a913f890803636f2a45c58cb61f8c006b9b86bc1151b3a100a69ab34f", func := "entrust/entrustlaw02.ShaSums", spec := "shaSums", unfollowed := true, recurses := true, named := ["entrust/sha.initials", "entrust/sha.constants", "entrust/entrustref02.Initials", "entrust/entrustref02.Constants"], apart := false, laid := [("entrust/entrustref02.Constants", laid_entrust_entrustref02_Constants), ("entrust/entrustref02.Initials", laid_entrust_entrustref02_Initials), ("entrust/sha.constants", laid_entrust_sha_constants), ("entrust/sha.initials", laid_entrust_sha_initials)] }
def ShaSumsSaid : Prop := shaSumsRow.holds Tryd.pinned (OpenSpec.ofChange shaSumsSpec)

/-- ITS FALSE NEIGHBOUR: 'it returns false'. Refute it at one input. -/
def shaSumsWrong : ChangeSpec := { name := "shaSums", fn := fun _ => fun
  | [d] => { results := [.lit (.bool false)], args := [d] }
  | _ => none }
def ShaSumsWrongFalsely : Prop := shaSumsRow.holds Tryd.pinned (OpenSpec.ofChange shaSumsWrong)

/-- 'entrustlaw02.ShaBlocks': WHATEVER THE INPUT: true; the input reads as it did. -/
def shaBlocksSpec : ChangeSpec := { name := "shaBlocks", fn := fun _ => fun
  | [d1, d2] => { results := [.lit (.bool true)], args := [d1, d2] }
  | _ => none }
def shaBlocksRow : OpenClaim := { program := "ytncoifiafklkjaadoor", sum := "9c73e24a913f890803636f2a45c58cb61f8c006b9b86bc1151b3a100a69ab34f", func := "entrust/entrustlaw02.ShaBlocks", spec := "shaBlocks", unfollowed := true, recurses := true, named := ["entrust/sha.initials", "entrust/sha.constants", "entrust/entrustref02.Constants"], apart := false, laid := [("entrust/entrustref02.Constants", laid_entrust_entrustref02_Constants), ("entrust/sha.constants", laid_entrust_sha_constants), ("entrust/sha.initials", laid_entrust_sha_initials)] }
def ShaBlocksSaid : Prop := shaBlocksRow.holds Tryd.pinned (OpenSpec.ofChange shaBlocksSpec)

/-- ITS FALSE NEIGHBOUR: 'it returns false'. Refute it at one input. -/
def shaBlocksWrong : ChangeSpec := { name := "shaBlocks", fn := fun _ => fun
  | [d1, d2] => { results := [.lit (.bool false)], args := [d1, d2] }
  | _ => none }
def ShaBlocksWrongFalsely : Prop := shaBlocksRow.holds Tryd.pinned (OpenSpec.ofChange shaBlocksWrong)

/-- 'entrustlaw02.ShaParts': WHATEVER THE INPUT: true; the input reads as it did. -/
def shaPartsSpec : ChangeSpec := { name := "shaParts", fn := fun _ => fun
  | [d1, d2, d3] => { results := [.lit (.bool true)], args := [d1, d2, d3] }
  | _ => none }
def shaPartsRow : OpenClaim := { program := "ytncoifiafklkjaadoor", sum := "9c73e24a913f890803636f2a45c58cb61f8c006b9b86bc1151b3a100a69ab34f", func := "entrust/entrustlaw02.ShaParts", spec := "shaParts", inPlace := ["internal/bytealg.MakeNoZero"], unfollowed := true, recurses := true, named := ["entrust/sha.initials", "entrust/sha.constants", "entrust/entrustref02.Initials", "entrust/entrustref02.Constants"], apart := false, laid := [("entrust/entrustref02.Constants", laid_entrust_entrustref02_Constants), ("entrust/entrustref02.Initials", laid_entrust_entrustref02_Initials), ("entrust/sha.constants", laid_entrust_sha_constants), ("entrust/sha.initials", laid_entrust_sha_initials)] }
def ShaPartsSaid : Prop := shaPartsRow.holds Tryd.pinned (OpenSpec.ofChange shaPartsSpec)

/-- ITS FALSE NEIGHBOUR: 'it returns false'. Refute it at one input. -/
def shaPartsWrong : ChangeSpec := { name := "shaParts", fn := fun _ => fun
  | [d1, d2, d3] => { results := [.lit (.bool false)], args := [d1, d2, d3] }
  | _ => none }
def ShaPartsWrongFalsely : Prop := shaPartsRow.holds Tryd.pinned (OpenSpec.ofChange shaPartsWrong)

/-- 'entrustlaw02.ShaRoots': WHATEVER THE INPUT: true; the input reads as it did. -/
def shaRootsSpec : ChangeSpec := { name := "shaRoots", fn := fun _ => fun
  | [d] => { results := [.lit (.bool true)], args := [d] }
  | _ => none }
def shaRootsRow : OpenClaim := { program := "ytncoifiafklkjaadoor", sum := "9c73e24a913f890803636f2a45c58cb61f8c006b9b86bc1151b3a100a69ab34f", func := "entrust/entrustlaw02.ShaRoots", spec := "shaRoots", unfollowed := true, recurses := true, named := ["entrust/entrustref02.Constants", "entrust/entrustref02.Initials", "entrust/sha.initials", "entrust/sha.constants"], apart := false, laid := [("entrust/entrustref02.Constants", laid_entrust_entrustref02_Constants), ("entrust/entrustref02.Initials", laid_entrust_entrustref02_Initials), ("entrust/sha.constants", laid_entrust_sha_constants), ("entrust/sha.initials", laid_entrust_sha_initials)] }
def ShaRootsSaid : Prop := shaRootsRow.holds Tryd.pinned (OpenSpec.ofChange shaRootsSpec)

/-- ITS FALSE NEIGHBOUR: 'it returns false'. Refute it at one input. -/
def shaRootsWrong : ChangeSpec := { name := "shaRoots", fn := fun _ => fun
  | [d] => { results := [.lit (.bool false)], args := [d] }
  | _ => none }
def ShaRootsWrongFalsely : Prop := shaRootsRow.holds Tryd.pinned (OpenSpec.ofChange shaRootsWrong)

/-- 'entrustlaw03.HmacSames': WHATEVER THE INPUT: true; the input reads as it did. -/
def hmacSamesSpec : ChangeSpec := { name := "hmacSames", fn := fun _ => fun
  | [d1, d2] => { results := [.lit (.bool true)], args := [d1, d2] }
  | _ => none }
def hmacSamesRow : OpenClaim := { program := "ytncoifiafklkjaadoor", sum := "9c73e24a913f890803636f2a45c58cb61f8c006b9b86bc1151b3a100a69ab34f", func := "entrust/entrustlaw03.HmacSames", spec := "hmacSames", inPlace := ["internal/bytealg.MakeNoZero"], unfollowed := true, recurses := true, named := ["entrust/sha.initials", "entrust/sha.constants"], apart := false, laid := [("entrust/sha.constants", laid_entrust_sha_constants), ("entrust/sha.initials", laid_entrust_sha_initials)] }
def HmacSamesSaid : Prop := hmacSamesRow.holds Tryd.pinned (OpenSpec.ofChange hmacSamesSpec)

/-- ITS FALSE NEIGHBOUR: 'it returns false'. Refute it at one input. -/
def hmacSamesWrong : ChangeSpec := { name := "hmacSames", fn := fun _ => fun
  | [d1, d2] => { results := [.lit (.bool false)], args := [d1, d2] }
  | _ => none }
def HmacSamesWrongFalsely : Prop := hmacSamesRow.holds Tryd.pinned (OpenSpec.ofChange hmacSamesWrong)

/-- 'entrustlaw03.HmacMacs': WHATEVER THE INPUT: true; the input reads as it did. -/
def hmacMacsSpec : ChangeSpec := { name := "hmacMacs", fn := fun _ => fun
  | [d1, d2, d3] => { results := [.lit (.bool true)], args := [d1, d2, d3] }
  | _ => none }
def hmacMacsRow : OpenClaim := { program := "ytncoifiafklkjaadoor", sum := "9c73e24a913f890803636f2a45c58cb61f8c006b9b86bc1151b3a100a69ab34f", func := "entrust/entrustlaw03.HmacMacs", spec := "hmacMacs", inPlace := ["internal/bytealg.MakeNoZero"], unfollowed := true, recurses := true, named := ["entrust/sha.initials", "entrust/sha.constants", "entrust/entrustref02.Initials", "entrust/entrustref02.Constants"], apart := false, laid := [("entrust/entrustref02.Constants", laid_entrust_entrustref02_Constants), ("entrust/entrustref02.Initials", laid_entrust_entrustref02_Initials), ("entrust/sha.constants", laid_entrust_sha_constants), ("entrust/sha.initials", laid_entrust_sha_initials)] }
def HmacMacsSaid : Prop := hmacMacsRow.holds Tryd.pinned (OpenSpec.ofChange hmacMacsSpec)

/-- ITS FALSE NEIGHBOUR: 'it returns false'. Refute it at one input. -/
def hmacMacsWrong : ChangeSpec := { name := "hmacMacs", fn := fun _ => fun
  | [d1, d2, d3] => { results := [.lit (.bool false)], args := [d1, d2, d3] }
  | _ => none }
def HmacMacsWrongFalsely : Prop := hmacMacsRow.holds Tryd.pinned (OpenSpec.ofChange hmacMacsWrong)

/-- 'entrustlaw03.HmacChecks': WHATEVER THE INPUT: true; the input reads as it did. -/
def hmacChecksSpec : ChangeSpec := { name := "hmacChecks", fn := fun _ => fun
  | [d1, d2, d3] => { results := [.lit (.bool true)], args := [d1, d2, d3] }
  | _ => none }
def hmacChecksRow : OpenClaim := { program := "ytncoifiafklkjaadoor", sum := "9c73e24a913f890803636f2a45c58cb61f8c006b9b86bc1151b3a100a69ab34f", func := "entrust/entrustlaw03.HmacChecks", spec := "hmacChecks", inPlace := ["internal/bytealg.MakeNoZero"], unfollowed := true, recurses := true, named := ["entrust/sha.initials", "entrust/sha.constants", "entrust/entrustref02.Initials", "entrust/entrustref02.Constants"], apart := false, laid := [("entrust/entrustref02.Constants", laid_entrust_entrustref02_Constants), ("entrust/entrustref02.Initials", laid_entrust_entrustref02_Initials), ("entrust/sha.constants", laid_entrust_sha_constants), ("entrust/sha.initials", laid_entrust_sha_initials)] }
def HmacChecksSaid : Prop := hmacChecksRow.holds Tryd.pinned (OpenSpec.ofChange hmacChecksSpec)

/-- ITS FALSE NEIGHBOUR: 'it returns false'. Refute it at one input. -/
def hmacChecksWrong : ChangeSpec := { name := "hmacChecks", fn := fun _ => fun
  | [d1, d2, d3] => { results := [.lit (.bool false)], args := [d1, d2, d3] }
  | _ => none }
def HmacChecksWrongFalsely : Prop := hmacChecksRow.holds Tryd.pinned (OpenSpec.ofChange hmacChecksWrong)

/-- 'entrustlaw03.HmacTurns': WHATEVER THE INPUT: true; the input reads as it did. -/
def hmacTurnsSpec : ChangeSpec := { name := "hmacTurns", fn := fun _ => fun
  | [d1, d2, d3] => { results := [.lit (.bool true)], args := [d1, d2, d3] }
  | _ => none }
def hmacTurnsRow : OpenClaim := { program := "ytncoifiafklkjaadoor", sum := "9c73e24a913f890803636f2a45c58cb61f8c006b9b86bc1151b3a100a69ab34f", func := "entrust/entrustlaw03.HmacTurns", spec := "hmacTurns", inPlace := ["internal/bytealg.MakeNoZero"], unfollowed := true, recurses := true, named := ["entrust/sha.initials", "entrust/sha.constants"], apart := false, laid := [("entrust/sha.constants", laid_entrust_sha_constants), ("entrust/sha.initials", laid_entrust_sha_initials)] }
def HmacTurnsSaid : Prop := hmacTurnsRow.holds Tryd.pinned (OpenSpec.ofChange hmacTurnsSpec)

/-- ITS FALSE NEIGHBOUR: 'it returns false'. Refute it at one input. -/
def hmacTurnsWrong : ChangeSpec := { name := "hmacTurns", fn := fun _ => fun
  | [d1, d2, d3] => { results := [.lit (.bool false)], args := [d1, d2, d3] }
  | _ => none }
def HmacTurnsWrongFalsely : Prop := hmacTurnsRow.holds Tryd.pinned (OpenSpec.ofChange hmacTurnsWrong)

/-- 'entrustlaw06.KeysLabels': WHATEVER THE INPUT: true; the input reads as it did. -/
def keysLabelsSpec : ChangeSpec := { name := "keysLabels", fn := fun _ => fun
  | [d1, d2, d3] => { results := [.lit (.bool true)], args := [d1, d2, d3] }
  | _ => none }
def keysLabelsRow : OpenClaim := { program := "ytncoifiafklkjaadoor", sum := "9c73e24a913f890803636f2a45c58cb61f8c006b9b86bc1151b3a100a69ab34f", func := "entrust/entrustlaw06.KeysLabels", spec := "keysLabels", inPlace := ["internal/bytealg.MakeNoZero"], unfollowed := true, recurses := true, named := ["entrust/sha.initials", "entrust/sha.constants", "entrust/entrustref02.Initials", "entrust/entrustref02.Constants"], apart := false, laid := [("entrust/entrustref02.Constants", laid_entrust_entrustref02_Constants), ("entrust/entrustref02.Initials", laid_entrust_entrustref02_Initials), ("entrust/sha.constants", laid_entrust_sha_constants), ("entrust/sha.initials", laid_entrust_sha_initials)] }
def KeysLabelsSaid : Prop := keysLabelsRow.holds Tryd.pinned (OpenSpec.ofChange keysLabelsSpec)

/-- ITS FALSE NEIGHBOUR: 'it returns false'. Refute it at one input. -/
def keysLabelsWrong : ChangeSpec := { name := "keysLabels", fn := fun _ => fun
  | [d1, d2, d3] => { results := [.lit (.bool false)], args := [d1, d2, d3] }
  | _ => none }
def KeysLabelsWrongFalsely : Prop := keysLabelsRow.holds Tryd.pinned (OpenSpec.ofChange keysLabelsWrong)

/-- 'entrustlaw06.KeysOf': WHATEVER THE INPUT: true; the input reads as it did. -/
def keysOfSpec : ChangeSpec := { name := "keysOf", fn := fun _ => fun
  | [d1, d2] => { results := [.lit (.bool true)], args := [d1, d2] }
  | _ => none }
def keysOfRow : OpenClaim := { program := "ytncoifiafklkjaadoor", sum := "9c73e24a913f890803636f2a45c58cb61f8c006b9b86bc1151b3a100a69ab34f", func := "entrust/entrustlaw06.KeysOf", spec := "keysOf", inPlace := ["internal/bytealg.MakeNoZero"], unfollowed := true, recurses := true, named := ["entrust/sha.initials", "entrust/sha.constants", "entrust/entrustref02.Initials", "entrust/entrustref02.Constants"], apart := false, laid := [("entrust/entrustref02.Constants", laid_entrust_entrustref02_Constants), ("entrust/entrustref02.Initials", laid_entrust_entrustref02_Initials), ("entrust/sha.constants", laid_entrust_sha_constants), ("entrust/sha.initials", laid_entrust_sha_initials)] }
def KeysOfSaid : Prop := keysOfRow.holds Tryd.pinned (OpenSpec.ofChange keysOfSpec)

/-- ITS FALSE NEIGHBOUR: 'it returns false'. Refute it at one input. -/
def keysOfWrong : ChangeSpec := { name := "keysOf", fn := fun _ => fun
  | [d1, d2] => { results := [.lit (.bool false)], args := [d1, d2] }
  | _ => none }
def KeysOfWrongFalsely : Prop := keysOfRow.holds Tryd.pinned (OpenSpec.ofChange keysOfWrong)

/-- 'entrustlaw06.KeysApart': WHATEVER THE INPUT: true; the input reads as it did. -/
def keysApartSpec : ChangeSpec := { name := "keysApart", fn := fun _ => fun
  | [d1, d2, d3] => { results := [.lit (.bool true)], args := [d1, d2, d3] }
  | _ => none }
def keysApartRow : OpenClaim := { program := "ytncoifiafklkjaadoor", sum := "9c73e24a913f890803636f2a45c58cb61f8c006b9b86bc1151b3a100a69ab34f", func := "entrust/entrustlaw06.KeysApart", spec := "keysApart", inPlace := ["internal/bytealg.MakeNoZero"], unfollowed := true, recurses := true, named := ["entrust/sha.initials", "entrust/sha.constants", "entrust/entrustref02.Initials", "entrust/entrustref02.Constants"], apart := false, laid := [("entrust/entrustref02.Constants", laid_entrust_entrustref02_Constants), ("entrust/entrustref02.Initials", laid_entrust_entrustref02_Initials), ("entrust/sha.constants", laid_entrust_sha_constants), ("entrust/sha.initials", laid_entrust_sha_initials)] }
def KeysApartSaid : Prop := keysApartRow.holds Tryd.pinned (OpenSpec.ofChange keysApartSpec)

/-- ITS FALSE NEIGHBOUR: 'it returns false'. Refute it at one input. -/
def keysApartWrong : ChangeSpec := { name := "keysApart", fn := fun _ => fun
  | [d1, d2, d3] => { results := [.lit (.bool false)], args := [d1, d2, d3] }
  | _ => none }
def KeysApartWrongFalsely : Prop := keysApartRow.holds Tryd.pinned (OpenSpec.ofChange keysApartWrong)

/-- 'entrustlaw07.SealSeals': WHATEVER THE INPUT: true; the input reads as it did. -/
def sealSealsSpec : ChangeSpec := { name := "sealSeals", fn := fun _ => fun
  | [d1, d2, d3] => { results := [.lit (.bool true)], args := [d1, d2, d3] }
  | _ => none }
def sealSealsRow : OpenClaim := { program := "ytncoifiafklkjaadoor", sum := "9c73e24a913f890803636f2a45c58cb61f8c006b9b86bc1151b3a100a69ab34f", func := "entrust/entrustlaw07.SealSeals", spec := "sealSeals", inPlace := ["internal/bytealg.MakeNoZero"], unfollowed := true, recurses := true, named := ["entrust/sha.initials", "entrust/sha.constants", "entrust/entrustref02.Initials", "entrust/entrustref02.Constants"], apart := false, laid := [("entrust/entrustref02.Constants", laid_entrust_entrustref02_Constants), ("entrust/entrustref02.Initials", laid_entrust_entrustref02_Initials), ("entrust/sha.constants", laid_entrust_sha_constants), ("entrust/sha.initials", laid_entrust_sha_initials)] }
def SealSealsSaid : Prop := sealSealsRow.holds Tryd.pinned (OpenSpec.ofChange sealSealsSpec)

/-- ITS FALSE NEIGHBOUR: 'it returns false'. Refute it at one input. -/
def sealSealsWrong : ChangeSpec := { name := "sealSeals", fn := fun _ => fun
  | [d1, d2, d3] => { results := [.lit (.bool false)], args := [d1, d2, d3] }
  | _ => none }
def SealSealsWrongFalsely : Prop := sealSealsRow.holds Tryd.pinned (OpenSpec.ofChange sealSealsWrong)

/-- 'entrustlaw07.SealOpens': WHATEVER THE INPUT: true; the input reads as it did. -/
def sealOpensSpec : ChangeSpec := { name := "sealOpens", fn := fun _ => fun
  | [d1, d2, d3] => { results := [.lit (.bool true)], args := [d1, d2, d3] }
  | _ => none }
def sealOpensRow : OpenClaim := { program := "ytncoifiafklkjaadoor", sum := "9c73e24a913f890803636f2a45c58cb61f8c006b9b86bc1151b3a100a69ab34f", func := "entrust/entrustlaw07.SealOpens", spec := "sealOpens", inPlace := ["internal/bytealg.MakeNoZero"], unfollowed := true, recurses := true, named := ["entrust/sha.initials", "entrust/sha.constants", "entrust/entrustref02.Initials", "entrust/entrustref02.Constants"], apart := false, laid := [("entrust/entrustref02.Constants", laid_entrust_entrustref02_Constants), ("entrust/entrustref02.Initials", laid_entrust_entrustref02_Initials), ("entrust/sha.constants", laid_entrust_sha_constants), ("entrust/sha.initials", laid_entrust_sha_initials)] }
def SealOpensSaid : Prop := sealOpensRow.holds Tryd.pinned (OpenSpec.ofChange sealOpensSpec)

/-- ITS FALSE NEIGHBOUR: 'it returns false'. Refute it at one input. -/
def sealOpensWrong : ChangeSpec := { name := "sealOpens", fn := fun _ => fun
  | [d1, d2, d3] => { results := [.lit (.bool false)], args := [d1, d2, d3] }
  | _ => none }
def SealOpensWrongFalsely : Prop := sealOpensRow.holds Tryd.pinned (OpenSpec.ofChange sealOpensWrong)

/-- 'entrustlaw07.SealApart': WHATEVER THE INPUT: true; the input reads as it did. -/
def sealApartSpec : ChangeSpec := { name := "sealApart", fn := fun _ => fun
  | [d1, d2] => { results := [.lit (.bool true)], args := [d1, d2] }
  | _ => none }
def sealApartRow : OpenClaim := { program := "ytncoifiafklkjaadoor", sum := "9c73e24a913f890803636f2a45c58cb61f8c006b9b86bc1151b3a100a69ab34f", func := "entrust/entrustlaw07.SealApart", spec := "sealApart", inPlace := ["internal/bytealg.MakeNoZero"], unfollowed := true, recurses := true, named := ["entrust/sha.initials", "entrust/sha.constants"], apart := false, laid := [("entrust/sha.constants", laid_entrust_sha_constants), ("entrust/sha.initials", laid_entrust_sha_initials)] }
def SealApartSaid : Prop := sealApartRow.holds Tryd.pinned (OpenSpec.ofChange sealApartSpec)

/-- ITS FALSE NEIGHBOUR: 'it returns false'. Refute it at one input. -/
def sealApartWrong : ChangeSpec := { name := "sealApart", fn := fun _ => fun
  | [d1, d2] => { results := [.lit (.bool false)], args := [d1, d2] }
  | _ => none }
def SealApartWrongFalsely : Prop := sealApartRow.holds Tryd.pinned (OpenSpec.ofChange sealApartWrong)

/-- 'entrustlaw07.SealBack': WHATEVER THE INPUT: true; the input reads as it did. -/
def sealBackSpec : ChangeSpec := { name := "sealBack", fn := fun _ => fun
  | [d1, d2, d3] => { results := [.lit (.bool true)], args := [d1, d2, d3] }
  | _ => none }
def sealBackRow : OpenClaim := { program := "ytncoifiafklkjaadoor", sum := "9c73e24a913f890803636f2a45c58cb61f8c006b9b86bc1151b3a100a69ab34f", func := "entrust/entrustlaw07.SealBack", spec := "sealBack", inPlace := ["internal/bytealg.MakeNoZero"], unfollowed := true, recurses := true, named := ["entrust/sha.initials", "entrust/sha.constants", "entrust/entrustref02.Initials", "entrust/entrustref02.Constants"], apart := false, laid := [("entrust/entrustref02.Constants", laid_entrust_entrustref02_Constants), ("entrust/entrustref02.Initials", laid_entrust_entrustref02_Initials), ("entrust/sha.constants", laid_entrust_sha_constants), ("entrust/sha.initials", laid_entrust_sha_initials)] }
def SealBackSaid : Prop := sealBackRow.holds Tryd.pinned (OpenSpec.ofChange sealBackSpec)

/-- ITS FALSE NEIGHBOUR: 'it returns false'. Refute it at one input. -/
def sealBackWrong : ChangeSpec := { name := "sealBack", fn := fun _ => fun
  | [d1, d2, d3] => { results := [.lit (.bool false)], args := [d1, d2, d3] }
  | _ => none }
def SealBackWrongFalsely : Prop := sealBackRow.holds Tryd.pinned (OpenSpec.ofChange sealBackWrong)

/-- 'entrustlaw08.NodeJoins': WHATEVER THE INPUT: true; the input reads as it did. -/
def nodeJoinsSpec : ChangeSpec := { name := "nodeJoins", fn := fun _ => fun
  | [d1, d2, d3] => { results := [.lit (.bool true)], args := [d1, d2, d3] }
  | _ => none }
def nodeJoinsRow : OpenClaim := { program := "ytncoifiafklkjaadoor", sum := "9c73e24a913f890803636f2a45c58cb61f8c006b9b86bc1151b3a100a69ab34f", func := "entrust/entrustlaw08.NodeJoins", spec := "nodeJoins", unfollowed := true, recurses := true, named := ["entrust/sha.initials", "entrust/sha.constants", "entrust/entrustref02.Initials", "entrust/entrustref02.Constants"], apart := false, laid := [("entrust/entrustref02.Constants", laid_entrust_entrustref02_Constants), ("entrust/entrustref02.Initials", laid_entrust_entrustref02_Initials), ("entrust/sha.constants", laid_entrust_sha_constants), ("entrust/sha.initials", laid_entrust_sha_initials)] }
def NodeJoinsSaid : Prop := nodeJoinsRow.holds Tryd.pinned (OpenSpec.ofChange nodeJoinsSpec)

/-- ITS FALSE NEIGHBOUR: 'it returns false'. Refute it at one input. -/
def nodeJoinsWrong : ChangeSpec := { name := "nodeJoins", fn := fun _ => fun
  | [d1, d2, d3] => { results := [.lit (.bool false)], args := [d1, d2, d3] }
  | _ => none }
def NodeJoinsWrongFalsely : Prop := nodeJoinsRow.holds Tryd.pinned (OpenSpec.ofChange nodeJoinsWrong)

/-- 'entrustlaw08.NodeKinds': WHATEVER THE INPUT: true; the input reads as it did. -/
def nodeKindsSpec : ChangeSpec := { name := "nodeKinds", fn := fun _ => fun
  | [d] => { results := [.lit (.bool true)], args := [d] }
  | _ => none }
def nodeKindsRow : OpenClaim := { program := "ytncoifiafklkjaadoor", sum := "9c73e24a913f890803636f2a45c58cb61f8c006b9b86bc1151b3a100a69ab34f", func := "entrust/entrustlaw08.NodeKinds", spec := "nodeKinds", unfollowed := true, recurses := true, named := ["entrust/sha.initials", "entrust/sha.constants", "entrust/entrustref02.Initials", "entrust/entrustref02.Constants"], apart := false, laid := [("entrust/entrustref02.Constants", laid_entrust_entrustref02_Constants), ("entrust/entrustref02.Initials", laid_entrust_entrustref02_Initials), ("entrust/sha.constants", laid_entrust_sha_constants), ("entrust/sha.initials", laid_entrust_sha_initials)] }
def NodeKindsSaid : Prop := nodeKindsRow.holds Tryd.pinned (OpenSpec.ofChange nodeKindsSpec)

/-- ITS FALSE NEIGHBOUR: 'it returns false'. Refute it at one input. -/
def nodeKindsWrong : ChangeSpec := { name := "nodeKinds", fn := fun _ => fun
  | [d] => { results := [.lit (.bool false)], args := [d] }
  | _ => none }
def NodeKindsWrongFalsely : Prop := nodeKindsRow.holds Tryd.pinned (OpenSpec.ofChange nodeKindsWrong)

/-- 'entrustlaw08.NodeApart': WHATEVER THE INPUT: true; the input reads as it did. -/
def nodeApartSpec : ChangeSpec := { name := "nodeApart", fn := fun _ => fun
  | [d1, d2, d3] => { results := [.lit (.bool true)], args := [d1, d2, d3] }
  | _ => none }
def nodeApartRow : OpenClaim := { program := "ytncoifiafklkjaadoor", sum := "9c73e24a913f890803636f2a45c58cb61f8c006b9b86bc1151b3a100a69ab34f", func := "entrust/entrustlaw08.NodeApart", spec := "nodeApart", unfollowed := true, recurses := true, named := ["entrust/sha.initials", "entrust/sha.constants"], apart := false, laid := [("entrust/sha.constants", laid_entrust_sha_constants), ("entrust/sha.initials", laid_entrust_sha_initials)] }
def NodeApartSaid : Prop := nodeApartRow.holds Tryd.pinned (OpenSpec.ofChange nodeApartSpec)

/-- ITS FALSE NEIGHBOUR: 'it returns false'. Refute it at one input. -/
def nodeApartWrong : ChangeSpec := { name := "nodeApart", fn := fun _ => fun
  | [d1, d2, d3] => { results := [.lit (.bool false)], args := [d1, d2, d3] }
  | _ => none }
def NodeApartWrongFalsely : Prop := nodeApartRow.holds Tryd.pinned (OpenSpec.ofChange nodeApartWrong)

/-- 'entrustlaw08.NodeLeaves': WHATEVER THE INPUT: true; the input reads as it did. -/
def nodeLeavesSpec : ChangeSpec := { name := "nodeLeaves", fn := fun _ => fun
  | [d1, d2] => { results := [.lit (.bool true)], args := [d1, d2] }
  | _ => none }
def nodeLeavesRow : OpenClaim := { program := "ytncoifiafklkjaadoor", sum := "9c73e24a913f890803636f2a45c58cb61f8c006b9b86bc1151b3a100a69ab34f", func := "entrust/entrustlaw08.NodeLeaves", spec := "nodeLeaves", unfollowed := true, recurses := true, named := ["entrust/sha.initials", "entrust/sha.constants", "entrust/entrustref02.Initials", "entrust/entrustref02.Constants"], apart := false, laid := [("entrust/entrustref02.Constants", laid_entrust_entrustref02_Constants), ("entrust/entrustref02.Initials", laid_entrust_entrustref02_Initials), ("entrust/sha.constants", laid_entrust_sha_constants), ("entrust/sha.initials", laid_entrust_sha_initials)] }
def NodeLeavesSaid : Prop := nodeLeavesRow.holds Tryd.pinned (OpenSpec.ofChange nodeLeavesSpec)

/-- ITS FALSE NEIGHBOUR: 'it returns false'. Refute it at one input. -/
def nodeLeavesWrong : ChangeSpec := { name := "nodeLeaves", fn := fun _ => fun
  | [d1, d2] => { results := [.lit (.bool false)], args := [d1, d2] }
  | _ => none }
def NodeLeavesWrongFalsely : Prop := nodeLeavesRow.holds Tryd.pinned (OpenSpec.ofChange nodeLeavesWrong)

/- THE SECOND FORM. 'bulk': how many values and letters a reading holds, each counted each time it is reached (what is shared counts as often as it is met; a slice's spare places count too). A statement '..UptoSaid' is the law's where the arguments, and the package variables that the reading takes, are together of bulk at most 1048576: NARROWER than '..Said'. Prove '..Said' where nothing that the law and all that it calls make is longer than what came in: it says more and counts as full. Else prove '..UptoSaid'. A law counts once. -/
mutual
def uptoBulk {H : Type} : DataW H → Nat
  | .lit (.string bytes) => bytes.length + 1
  | .lit _ => 1
  | .nil => 1
  | .ptr d => uptoBulk d + 1
  | .slice elems spare => uptoBulkAll elems + uptoBulkAll spare + 1
  | .agg parts => uptoBulkAll parts + 1
  | .iface _ d => uptoBulk d + 1
  | .map entries => uptoBulkEntries entries + 1
  | .held _ => 1
def uptoBulkAll {H : Type} : List (DataW H) → Nat
  | [] => 0
  | d :: r => uptoBulk d + uptoBulkAll r
def uptoBulkEntries {H : Type} : List (Lit × DataW H) → Nat
  | [] => 0
  | x :: r => uptoBulkEntry x + uptoBulkEntries r
def uptoBulkEntry {H : Type} : Lit × DataW H → Nat
  | (.string bytes, d) => bytes.length + uptoBulk d + 1
  | (_, d) => uptoBulk d + 1
 end
def uptoSmall : (H : Type) → List (DataW H) → Bool := fun _ ds => decide (uptoBulkAll ds ≤ 1048576)
def OpenSpec.upto (s : _root_.Go.ChangeSpec) : _root_.Go.OpenSpec := { _root_.Go.OpenSpec.ofChange s with cond := some uptoSmall }

/-- 'entrustlaw02.ShaSums', WHERE WHAT IT READS IS OF BULK AT MOST 1048576: true; the input reads as it did. -/
def shaSumsUptoRow : OpenClaim := { program := "ytncoifiafklkjaadoor", sum := "9c73e24a913f890803636f2a45c58cb61f8c006b9b86bc1151b3a100a69ab34f", func := "entrust/entrustlaw02.ShaSums", spec := "shaSums", unfollowed := true, recurses := true, named := ["entrust/sha.initials", "entrust/sha.constants", "entrust/entrustref02.Initials", "entrust/entrustref02.Constants"], apart := false, laid := [("entrust/entrustref02.Constants", laid_entrust_entrustref02_Constants), ("entrust/entrustref02.Initials", laid_entrust_entrustref02_Initials), ("entrust/sha.constants", laid_entrust_sha_constants), ("entrust/sha.initials", laid_entrust_sha_initials)], narrowed := true }
def ShaSumsUptoSaid : Prop := shaSumsUptoRow.holds Tryd.pinned (OpenSpec.upto shaSumsSpec)

/-- 'entrustlaw02.ShaBlocks', WHERE WHAT IT READS IS OF BULK AT MOST 1048576: true; the input reads as it did. -/
def shaBlocksUptoRow : OpenClaim := { program := "ytncoifiafklkjaadoor", sum := "9c73e24a913f890803636f2a45c58cb61f8c006b9b86bc1151b3a100a69ab34f", func := "entrust/entrustlaw02.ShaBlocks", spec := "shaBlocks", unfollowed := true, recurses := true, named := ["entrust/sha.initials", "entrust/sha.constants", "entrust/entrustref02.Constants"], apart := false, laid := [("entrust/entrustref02.Constants", laid_entrust_entrustref02_Constants), ("entrust/sha.constants", laid_entrust_sha_constants), ("entrust/sha.initials", laid_entrust_sha_initials)], narrowed := true }
def ShaBlocksUptoSaid : Prop := shaBlocksUptoRow.holds Tryd.pinned (OpenSpec.upto shaBlocksSpec)

/-- 'entrustlaw02.ShaParts', WHERE WHAT IT READS IS OF BULK AT MOST 1048576: true; the input reads as it did. -/
def shaPartsUptoRow : OpenClaim := { program := "ytncoifiafklkjaadoor", sum := "9c73e24a913f890803636f2a45c58cb61f8c006b9b86bc1151b3a100a69ab34f", func := "entrust/entrustlaw02.ShaParts", spec := "shaParts", inPlace := ["internal/bytealg.MakeNoZero"], unfollowed := true, recurses := true, named := ["entrust/sha.initials", "entrust/sha.constants", "entrust/entrustref02.Initials", "entrust/entrustref02.Constants"], apart := false, laid := [("entrust/entrustref02.Constants", laid_entrust_entrustref02_Constants), ("entrust/entrustref02.Initials", laid_entrust_entrustref02_Initials), ("entrust/sha.constants", laid_entrust_sha_constants), ("entrust/sha.initials", laid_entrust_sha_initials)], narrowed := true }
def ShaPartsUptoSaid : Prop := shaPartsUptoRow.holds Tryd.pinned (OpenSpec.upto shaPartsSpec)

/-- 'entrustlaw02.ShaRoots', WHERE WHAT IT READS IS OF BULK AT MOST 1048576: true; the input reads as it did. -/
def shaRootsUptoRow : OpenClaim := { program := "ytncoifiafklkjaadoor", sum := "9c73e24a913f890803636f2a45c58cb61f8c006b9b86bc1151b3a100a69ab34f", func := "entrust/entrustlaw02.ShaRoots", spec := "shaRoots", unfollowed := true, recurses := true, named := ["entrust/entrustref02.Constants", "entrust/entrustref02.Initials", "entrust/sha.initials", "entrust/sha.constants"], apart := false, laid := [("entrust/entrustref02.Constants", laid_entrust_entrustref02_Constants), ("entrust/entrustref02.Initials", laid_entrust_entrustref02_Initials), ("entrust/sha.constants", laid_entrust_sha_constants), ("entrust/sha.initials", laid_entrust_sha_initials)], narrowed := true }
def ShaRootsUptoSaid : Prop := shaRootsUptoRow.holds Tryd.pinned (OpenSpec.upto shaRootsSpec)

/-- 'entrustlaw03.HmacSames', WHERE WHAT IT READS IS OF BULK AT MOST 1048576: true; the input reads as it did. -/
def hmacSamesUptoRow : OpenClaim := { program := "ytncoifiafklkjaadoor", sum := "9c73e24a913f890803636f2a45c58cb61f8c006b9b86bc1151b3a100a69ab34f", func := "entrust/entrustlaw03.HmacSames", spec := "hmacSames", inPlace := ["internal/bytealg.MakeNoZero"], unfollowed := true, recurses := true, named := ["entrust/sha.initials", "entrust/sha.constants"], apart := false, laid := [("entrust/sha.constants", laid_entrust_sha_constants), ("entrust/sha.initials", laid_entrust_sha_initials)], narrowed := true }
def HmacSamesUptoSaid : Prop := hmacSamesUptoRow.holds Tryd.pinned (OpenSpec.upto hmacSamesSpec)

/-- 'entrustlaw03.HmacMacs', WHERE WHAT IT READS IS OF BULK AT MOST 1048576: true; the input reads as it did. -/
def hmacMacsUptoRow : OpenClaim := { program := "ytncoifiafklkjaadoor", sum := "9c73e24a913f890803636f2a45c58cb61f8c006b9b86bc1151b3a100a69ab34f", func := "entrust/entrustlaw03.HmacMacs", spec := "hmacMacs", inPlace := ["internal/bytealg.MakeNoZero"], unfollowed := true, recurses := true, named := ["entrust/sha.initials", "entrust/sha.constants", "entrust/entrustref02.Initials", "entrust/entrustref02.Constants"], apart := false, laid := [("entrust/entrustref02.Constants", laid_entrust_entrustref02_Constants), ("entrust/entrustref02.Initials", laid_entrust_entrustref02_Initials), ("entrust/sha.constants", laid_entrust_sha_constants), ("entrust/sha.initials", laid_entrust_sha_initials)], narrowed := true }
def HmacMacsUptoSaid : Prop := hmacMacsUptoRow.holds Tryd.pinned (OpenSpec.upto hmacMacsSpec)

/-- 'entrustlaw03.HmacChecks', WHERE WHAT IT READS IS OF BULK AT MOST 1048576: true; the input reads as it did. -/
def hmacChecksUptoRow : OpenClaim := { program := "ytncoifiafklkjaadoor", sum := "9c73e24a913f890803636f2a45c58cb61f8c006b9b86bc1151b3a100a69ab34f", func := "entrust/entrustlaw03.HmacChecks", spec := "hmacChecks", inPlace := ["internal/bytealg.MakeNoZero"], unfollowed := true, recurses := true, named := ["entrust/sha.initials", "entrust/sha.constants", "entrust/entrustref02.Initials", "entrust/entrustref02.Constants"], apart := false, laid := [("entrust/entrustref02.Constants", laid_entrust_entrustref02_Constants), ("entrust/entrustref02.Initials", laid_entrust_entrustref02_Initials), ("entrust/sha.constants", laid_entrust_sha_constants), ("entrust/sha.initials", laid_entrust_sha_initials)], narrowed := true }
def HmacChecksUptoSaid : Prop := hmacChecksUptoRow.holds Tryd.pinned (OpenSpec.upto hmacChecksSpec)

/-- 'entrustlaw03.HmacTurns', WHERE WHAT IT READS IS OF BULK AT MOST 1048576: true; the input reads as it did. -/
def hmacTurnsUptoRow : OpenClaim := { program := "ytncoifiafklkjaadoor", sum := "9c73e24a913f890803636f2a45c58cb61f8c006b9b86bc1151b3a100a69ab34f", func := "entrust/entrustlaw03.HmacTurns", spec := "hmacTurns", inPlace := ["internal/bytealg.MakeNoZero"], unfollowed := true, recurses := true, named := ["entrust/sha.initials", "entrust/sha.constants"], apart := false, laid := [("entrust/sha.constants", laid_entrust_sha_constants), ("entrust/sha.initials", laid_entrust_sha_initials)], narrowed := true }
def HmacTurnsUptoSaid : Prop := hmacTurnsUptoRow.holds Tryd.pinned (OpenSpec.upto hmacTurnsSpec)

/-- 'entrustlaw06.KeysLabels', WHERE WHAT IT READS IS OF BULK AT MOST 1048576: true; the input reads as it did. -/
def keysLabelsUptoRow : OpenClaim := { program := "ytncoifiafklkjaadoor", sum := "9c73e24a913f890803636f2a45c58cb61f8c006b9b86bc1151b3a100a69ab34f", func := "entrust/entrustlaw06.KeysLabels", spec := "keysLabels", inPlace := ["internal/bytealg.MakeNoZero"], unfollowed := true, recurses := true, named := ["entrust/sha.initials", "entrust/sha.constants", "entrust/entrustref02.Initials", "entrust/entrustref02.Constants"], apart := false, laid := [("entrust/entrustref02.Constants", laid_entrust_entrustref02_Constants), ("entrust/entrustref02.Initials", laid_entrust_entrustref02_Initials), ("entrust/sha.constants", laid_entrust_sha_constants), ("entrust/sha.initials", laid_entrust_sha_initials)], narrowed := true }
def KeysLabelsUptoSaid : Prop := keysLabelsUptoRow.holds Tryd.pinned (OpenSpec.upto keysLabelsSpec)

/-- 'entrustlaw06.KeysOf', WHERE WHAT IT READS IS OF BULK AT MOST 1048576: true; the input reads as it did. -/
def keysOfUptoRow : OpenClaim := { program := "ytncoifiafklkjaadoor", sum := "9c73e24a913f890803636f2a45c58cb61f8c006b9b86bc1151b3a100a69ab34f", func := "entrust/entrustlaw06.KeysOf", spec := "keysOf", inPlace := ["internal/bytealg.MakeNoZero"], unfollowed := true, recurses := true, named := ["entrust/sha.initials", "entrust/sha.constants", "entrust/entrustref02.Initials", "entrust/entrustref02.Constants"], apart := false, laid := [("entrust/entrustref02.Constants", laid_entrust_entrustref02_Constants), ("entrust/entrustref02.Initials", laid_entrust_entrustref02_Initials), ("entrust/sha.constants", laid_entrust_sha_constants), ("entrust/sha.initials", laid_entrust_sha_initials)], narrowed := true }
def KeysOfUptoSaid : Prop := keysOfUptoRow.holds Tryd.pinned (OpenSpec.upto keysOfSpec)

/-- 'entrustlaw06.KeysApart', WHERE WHAT IT READS IS OF BULK AT MOST 1048576: true; the input reads as it did. -/
def keysApartUptoRow : OpenClaim := { program := "ytncoifiafklkjaadoor", sum := "9c73e24a913f890803636f2a45c58cb61f8c006b9b86bc1151b3a100a69ab34f", func := "entrust/entrustlaw06.KeysApart", spec := "keysApart", inPlace := ["internal/bytealg.MakeNoZero"], unfollowed := true, recurses := true, named := ["entrust/sha.initials", "entrust/sha.constants", "entrust/entrustref02.Initials", "entrust/entrustref02.Constants"], apart := false, laid := [("entrust/entrustref02.Constants", laid_entrust_entrustref02_Constants), ("entrust/entrustref02.Initials", laid_entrust_entrustref02_Initials), ("entrust/sha.constants", laid_entrust_sha_constants), ("entrust/sha.initials", laid_entrust_sha_initials)], narrowed := true }
def KeysApartUptoSaid : Prop := keysApartUptoRow.holds Tryd.pinned (OpenSpec.upto keysApartSpec)

/-- 'entrustlaw07.SealSeals', WHERE WHAT IT READS IS OF BULK AT MOST 1048576: true; the input reads as it did. -/
def sealSealsUptoRow : OpenClaim := { program := "ytncoifiafklkjaadoor", sum := "9c73e24a913f890803636f2a45c58cb61f8c006b9b86bc1151b3a100a69ab34f", func := "entrust/entrustlaw07.SealSeals", spec := "sealSeals", inPlace := ["internal/bytealg.MakeNoZero"], unfollowed := true, recurses := true, named := ["entrust/sha.initials", "entrust/sha.constants", "entrust/entrustref02.Initials", "entrust/entrustref02.Constants"], apart := false, laid := [("entrust/entrustref02.Constants", laid_entrust_entrustref02_Constants), ("entrust/entrustref02.Initials", laid_entrust_entrustref02_Initials), ("entrust/sha.constants", laid_entrust_sha_constants), ("entrust/sha.initials", laid_entrust_sha_initials)], narrowed := true }
def SealSealsUptoSaid : Prop := sealSealsUptoRow.holds Tryd.pinned (OpenSpec.upto sealSealsSpec)

/-- 'entrustlaw07.SealOpens', WHERE WHAT IT READS IS OF BULK AT MOST 1048576: true; the input reads as it did. -/
def sealOpensUptoRow : OpenClaim := { program := "ytncoifiafklkjaadoor", sum := "9c73e24a913f890803636f2a45c58cb61f8c006b9b86bc1151b3a100a69ab34f", func := "entrust/entrustlaw07.SealOpens", spec := "sealOpens", inPlace := ["internal/bytealg.MakeNoZero"], unfollowed := true, recurses := true, named := ["entrust/sha.initials", "entrust/sha.constants", "entrust/entrustref02.Initials", "entrust/entrustref02.Constants"], apart := false, laid := [("entrust/entrustref02.Constants", laid_entrust_entrustref02_Constants), ("entrust/entrustref02.Initials", laid_entrust_entrustref02_Initials), ("entrust/sha.constants", laid_entrust_sha_constants), ("entrust/sha.initials", laid_entrust_sha_initials)], narrowed := true }
def SealOpensUptoSaid : Prop := sealOpensUptoRow.holds Tryd.pinned (OpenSpec.upto sealOpensSpec)

/-- 'entrustlaw07.SealApart', WHERE WHAT IT READS IS OF BULK AT MOST 1048576: true; the input reads as it did. -/
def sealApartUptoRow : OpenClaim := { program := "ytncoifiafklkjaadoor", sum := "9c73e24a913f890803636f2a45c58cb61f8c006b9b86bc1151b3a100a69ab34f", func := "entrust/entrustlaw07.SealApart", spec := "sealApart", inPlace := ["internal/bytealg.MakeNoZero"], unfollowed := true, recurses := true, named := ["entrust/sha.initials", "entrust/sha.constants"], apart := false, laid := [("entrust/sha.constants", laid_entrust_sha_constants), ("entrust/sha.initials", laid_entrust_sha_initials)], narrowed := true }
def SealApartUptoSaid : Prop := sealApartUptoRow.holds Tryd.pinned (OpenSpec.upto sealApartSpec)

/-- 'entrustlaw07.SealBack', WHERE WHAT IT READS IS OF BULK AT MOST 1048576: true; the input reads as it did. -/
def sealBackUptoRow : OpenClaim := { program := "ytncoifiafklkjaadoor", sum := "9c73e24a913f890803636f2a45c58cb61f8c006b9b86bc1151b3a100a69ab34f", func := "entrust/entrustlaw07.SealBack", spec := "sealBack", inPlace := ["internal/bytealg.MakeNoZero"], unfollowed := true, recurses := true, named := ["entrust/sha.initials", "entrust/sha.constants", "entrust/entrustref02.Initials", "entrust/entrustref02.Constants"], apart := false, laid := [("entrust/entrustref02.Constants", laid_entrust_entrustref02_Constants), ("entrust/entrustref02.Initials", laid_entrust_entrustref02_Initials), ("entrust/sha.constants", laid_entrust_sha_constants), ("entrust/sha.initials", laid_entrust_sha_initials)], narrowed := true }
def SealBackUptoSaid : Prop := sealBackUptoRow.holds Tryd.pinned (OpenSpec.upto sealBackSpec)

/-- 'entrustlaw08.NodeJoins', WHERE WHAT IT READS IS OF BULK AT MOST 1048576: true; the input reads as it did. -/
def nodeJoinsUptoRow : OpenClaim := { program := "ytncoifiafklkjaadoor", sum := "9c73e24a913f890803636f2a45c58cb61f8c006b9b86bc1151b3a100a69ab34f", func := "entrust/entrustlaw08.NodeJoins", spec := "nodeJoins", unfollowed := true, recurses := true, named := ["entrust/sha.initials", "entrust/sha.constants", "entrust/entrustref02.Initials", "entrust/entrustref02.Constants"], apart := false, laid := [("entrust/entrustref02.Constants", laid_entrust_entrustref02_Constants), ("entrust/entrustref02.Initials", laid_entrust_entrustref02_Initials), ("entrust/sha.constants", laid_entrust_sha_constants), ("entrust/sha.initials", laid_entrust_sha_initials)], narrowed := true }
def NodeJoinsUptoSaid : Prop := nodeJoinsUptoRow.holds Tryd.pinned (OpenSpec.upto nodeJoinsSpec)

/-- 'entrustlaw08.NodeKinds', WHERE WHAT IT READS IS OF BULK AT MOST 1048576: true; the input reads as it did. -/
def nodeKindsUptoRow : OpenClaim := { program := "ytncoifiafklkjaadoor", sum := "9c73e24a913f890803636f2a45c58cb61f8c006b9b86bc1151b3a100a69ab34f", func := "entrust/entrustlaw08.NodeKinds", spec := "nodeKinds", unfollowed := true, recurses := true, named := ["entrust/sha.initials", "entrust/sha.constants", "entrust/entrustref02.Initials", "entrust/entrustref02.Constants"], apart := false, laid := [("entrust/entrustref02.Constants", laid_entrust_entrustref02_Constants), ("entrust/entrustref02.Initials", laid_entrust_entrustref02_Initials), ("entrust/sha.constants", laid_entrust_sha_constants), ("entrust/sha.initials", laid_entrust_sha_initials)], narrowed := true }
def NodeKindsUptoSaid : Prop := nodeKindsUptoRow.holds Tryd.pinned (OpenSpec.upto nodeKindsSpec)

/-- 'entrustlaw08.NodeApart', WHERE WHAT IT READS IS OF BULK AT MOST 1048576: true; the input reads as it did. -/
def nodeApartUptoRow : OpenClaim := { program := "ytncoifiafklkjaadoor", sum := "9c73e24a913f890803636f2a45c58cb61f8c006b9b86bc1151b3a100a69ab34f", func := "entrust/entrustlaw08.NodeApart", spec := "nodeApart", unfollowed := true, recurses := true, named := ["entrust/sha.initials", "entrust/sha.constants"], apart := false, laid := [("entrust/sha.constants", laid_entrust_sha_constants), ("entrust/sha.initials", laid_entrust_sha_initials)], narrowed := true }
def NodeApartUptoSaid : Prop := nodeApartUptoRow.holds Tryd.pinned (OpenSpec.upto nodeApartSpec)

/-- 'entrustlaw08.NodeLeaves', WHERE WHAT IT READS IS OF BULK AT MOST 1048576: true; the input reads as it did. -/
def nodeLeavesUptoRow : OpenClaim := { program := "ytncoifiafklkjaadoor", sum := "9c73e24a913f890803636f2a45c58cb61f8c006b9b86bc1151b3a100a69ab34f", func := "entrust/entrustlaw08.NodeLeaves", spec := "nodeLeaves", unfollowed := true, recurses := true, named := ["entrust/sha.initials", "entrust/sha.constants", "entrust/entrustref02.Initials", "entrust/entrustref02.Constants"], apart := false, laid := [("entrust/entrustref02.Constants", laid_entrust_entrustref02_Constants), ("entrust/entrustref02.Initials", laid_entrust_entrustref02_Initials), ("entrust/sha.constants", laid_entrust_sha_constants), ("entrust/sha.initials", laid_entrust_sha_initials)], narrowed := true }
def NodeLeavesUptoSaid : Prop := nodeLeavesUptoRow.holds Tryd.pinned (OpenSpec.upto nodeLeavesSpec)

end Rows
end Go.Proofs.YtncoifiafklkjaaDoor
