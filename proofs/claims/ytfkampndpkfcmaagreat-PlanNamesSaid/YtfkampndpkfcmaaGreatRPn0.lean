import Derived.Test.YtfkampndpkfcmaaGreatEC
import Derived.Test.YtfkampndpkfcmaaGreatProg
namespace Go.Proofs.RPn
open Go Go.Eng Go.Proofs
set_option maxRecDepth 100000
set_option linter.unusedVariables false
abbrev y0:Ty:=.pair .bool (.int .u8)
abbrev y1:Ty:=.pair (.int .i64) y0
abbrev y2:Ty:=.pair (.int .i64) y1
abbrev y3:Ty:=.pair .str (.int .u64)
abbrev y4:Ty:=.slice (.int .i64)
abbrev y5:Ty:=.pair y4 (.int .i64)
abbrev y6:Ty:=.pair (.int .i64) (.int .i64)
abbrev y7:Ty:=.pair (.int .i64) y6
abbrev y8:Ty:=.pair (.int .i64) y7
abbrev y9:Ty:=.pair (.int .i64) y4
abbrev y10:Ty:=.pair y7 y9
abbrev y11:Ty:=.pair y7 y10
abbrev y12:Ty:=.pair (.int .i64) y11
abbrev y13:Ty:=.pair (.int .i64) y12
abbrev y14:Ty:=.pair (.int .i64) y13
abbrev y15:Ty:=.pair y8 y14
abbrev y16:Ty:=.pair y6 y15
abbrev y17:Ty:=.pair y8 y6
abbrev y18:Ty:=.pair y8 y17
abbrev y19:Ty:=.pair .str (.int .i64)
abbrev y20:Ty:=.slice y19
abbrev y21:Ty:=.pair (.int .i64) y8
abbrev y22:Ty:=.pair (.int .i64) y21
abbrev y23:Ty:=.pair (.int .i64) y22
abbrev y24:Ty:=.pair (.int .i64) y23
abbrev y25:Ty:=.pair y7 y24
abbrev y26:Ty:=.pair (.int .i64) y25
abbrev y27:Ty:=.pair (.int .i64) y26
abbrev y28:Ty:=.slice y27
abbrev y29:Ty:=.pair y20 y28
abbrev y30:Ty:=.slice y8
abbrev y31:Ty:=.pair y29 y30
abbrev y32:Ty:=.pair y18 y31
abbrev y33:Ty:=.pair y16 y32
abbrev y34:Ty:=.slice (.int .u8)
abbrev y35:Ty:=.slice y4
abbrev y36:Ty:=.pair y6 y35
abbrev y37:Ty:=.pair (.int .i64) y36
abbrev y38:Ty:=.slice y6
abbrev y39:Ty:=.slice y38
abbrev y40:Ty:=.pair y35 y39
abbrev y41:Ty:=.pair y29 y40
abbrev y42:Ty:=.pair y18 y41
abbrev y43:Ty:=.pair y16 y42
abbrev y44:Ty:=.pair y6 y6
abbrev y45:Ty:=.pair (.int .i64) y44
abbrev y46:Ty:=.pair (.int .i64) y45
abbrev y47:Ty:=.slice y46
abbrev y48:Ty:=.slice y23
abbrev y49:Ty:=.pair y20 .other
abbrev y50:Ty:=.pair y49 y40
abbrev y51:Ty:=.pair y18 y50
abbrev y52:Ty:=.pair y16 y51
abbrev y53:Ty:=.pair y16 y31
abbrev y54:Ty:=.pair y52 y53
abbrev y55:Ty:=.pair y30 y30
abbrev y56:Ty:=.pair y37 y55
abbrev y57:Ty:=.pair y29 y56
abbrev y58:Ty:=.pair y18 y57
abbrev y59:Ty:=.pair y16 y58
abbrev y60:Ty:=.pair (.int .i64) .bool
abbrev y61:Ty:=.pair (.int .i64) y60
abbrev y62:Ty:=.slice y30
abbrev y63:Ty:=.slice (.int .u32)
abbrev y64:Ty:=.pair .bool y63
abbrev y65:Ty:=.pair y4 y47
abbrev y66:Ty:=.pair y52 y65
abbrev y67:Ty:=.pair (.int .i64) (.int .u64)
abbrev y68:Ty:=.pair .ptr .str
abbrev y69:Ty:=.pair .ptr y68
abbrev y70:Ty:=.pair .ptr y69
abbrev y71:Ty:=.pair (.int .i32) (.int .i32)
abbrev y72:Ty:=.pair .ptr y71
abbrev y73:Ty:=.pair .func y72
abbrev y74:Ty:=.pair (.int .u8) y73
abbrev y75:Ty:=.pair (.int .u8) y74
abbrev y76:Ty:=.pair (.int .u8) y75
abbrev y77:Ty:=.pair (.int .u8) y76
abbrev y78:Ty:=.pair (.int .u32) y77
abbrev y79:Ty:=.pair (.int .u64) y78
abbrev y80:Ty:=.pair (.int .u64) y79
abbrev y81:Ty:=.pair .other y16
abbrev y82:Ty:=.pair .func y30
def tis:List (Nat × TI):=[(0,⟨.true,.other,.false,0,[],.false,[],none,[]⟩),(1,⟨.true,.func,.false,8,[],.false,[],none,[]⟩),(2,⟨.true,.int .i64,.false,8,[],.false,[],none,[]⟩),(3,⟨.true,.int .i64,.false,8,[],.false,[],none,[]⟩),(4,⟨.true,.bool,.false,1,[],.false,[],none,[]⟩),(5,⟨.true,.int .u8,.false,1,[],.false,[],none,[]⟩),(6,⟨.true,.int .u8,.false,1,[],.false,[],none,[]⟩),(7,⟨.true,y2,.true,24,[(0,1),(1,1),(2,1),(3,1)],.true,[(some .false),(some .false),(some .false),(some .false)],none,[]⟩),(8,⟨.true,y2,.true,24,[(0,1),(1,1),(2,1),(3,1)],.true,[(some .false),(some .false),(some .false),(some .false)],none,[]⟩),(9,⟨.true,.str,.false,16,[],.false,[],none,[]⟩),(10,⟨.true,.str,.false,16,[],.false,[],none,[]⟩),(11,⟨.true,.str,.false,16,[],.false,[],none,[]⟩),(12,⟨.true,.int .u64,.false,8,[],.false,[],none,[]⟩),(13,⟨.true,y3,.true,24,[(0,1),(1,1)],.false,[(some .false),(some .false)],none,[]⟩),(14,⟨.true,y3,.true,24,[(0,1),(1,1)],.false,[(some .false),(some .false)],none,[]⟩),(15,⟨.true,.ptr,.false,8,[],.false,[],none,[]⟩),(16,⟨.true,.ptr,.false,8,[],.false,[],none,[]⟩),(17,⟨.true,.ptr,.false,8,[],.false,[],none,[("Len",238)]⟩),(18,⟨.true,.pair .ptr .unit,.true,8,[(0,1)],.false,[(some .false)],none,[]⟩),(19,⟨.true,.pair .ptr .unit,.true,8,[(0,1)],.false,[(some .false)],none,[]⟩),(20,⟨.true,.other,.false,16,[],.false,[],none,[]⟩),(21,⟨.true,.int .i32,.false,4,[],.false,[],none,[]⟩),(22,⟨.true,y4,.false,8,[],.false,[],none,[]⟩),(23,⟨.true,.func,.false,8,[],.false,[],none,[]⟩),(24,⟨.true,.ptr,.false,8,[],.false,[],none,[]⟩),(25,⟨.true,y5,.true,32,[(0,1),(1,1)],.false,[(some .false),(some .false)],none,[]⟩),(26,⟨.true,y5,.true,32,[(0,1),(1,1)],.false,[(some .false),(some .false)],none,[]⟩),(27,⟨.true,.int .i64,.false,8,[],.false,[],none,[]⟩),(28,⟨.true,y6,.true,16,[(0,1),(1,1)],.true,[(some .false),(some .false)],none,[]⟩),(29,⟨.true,y6,.true,16,[(0,1),(1,1)],.true,[(some .false),(some .false)],none,[]⟩),(30,⟨.true,.int .i64,.false,8,[],.false,[],none,[]⟩),(31,⟨.true,y6,.true,16,[(0,1),(1,1)],.true,[(some .false),(some .false)],none,[]⟩),(32,⟨.true,y6,.true,16,[(0,1),(1,1)],.true,[(some .false),(some .false)],none,[]⟩),(33,⟨.true,y8,.true,32,[(0,1),(1,1),(2,2)],.true,[(some .false),(some .false),(some .true)],none,[]⟩),(34,⟨.true,y8,.true,32,[(0,1),(1,1),(2,2)],.true,[(some .false),(some .false),(some .true)],none,[]⟩),(35,⟨.true,y7,.true,24,[(0,1),(1,1),(2,1)],.true,[(some .false),(some .false),(some .false)],none,[]⟩),(36,⟨.true,y7,.true,24,[(0,1),(1,1),(2,1)],.true,[(some .false),(some .false),(some .false)],none,[]⟩),(37,⟨.true,.int .i64,.false,8,[],.false,[],none,[]⟩),(38,⟨.true,y16,.true,152,[(0,2),(2,4),(6,1),(7,1),(8,1),(9,3),(12,3),(15,1),(16,1)],.false,[(some .true),(some .true),(some .false),(some .false),(some .false),(some .true),(some .true),(some .false),(some .false)],none,[]⟩),(39,⟨.true,y16,.true,152,[(0,2),(2,4),(6,1),(7,1),(8,1),(9,3),(12,3),(15,1),(16,1)],.false,[(some .true),(some .true),(some .false),(some .false),(some .false),(some .true),(some .true),(some .false),(some .false)],none,[]⟩),(40,⟨.true,.func,.false,8,[],.false,[],none,[]⟩),(41,⟨.true,y8,.true,32,[(0,1),(1,1),(2,1),(3,1)],.true,[(some .false),(some .false),(some .false),(some .false)],none,[]⟩),(42,⟨.true,y8,.true,32,[(0,1),(1,1),(2,1),(3,1)],.true,[(some .false),(some .false),(some .false),(some .false)],none,[]⟩),(43,⟨.true,y6,.true,16,[(0,1),(1,1)],.true,[(some .false),(some .false)],none,[]⟩),(44,⟨.true,y6,.true,16,[(0,1),(1,1)],.true,[(some .false),(some .false)],none,[]⟩),(45,⟨.true,y18,.true,80,[(0,4),(4,4),(8,2)],.true,[(some .true),(some .true),(some .true)],none,[]⟩),(46,⟨.true,y18,.true,80,[(0,4),(4,4),(8,2)],.true,[(some .true),(some .true),(some .true)],none,[]⟩),(47,⟨.true,.func,.false,8,[],.false,[],none,[]⟩),(48,⟨.true,y20,.false,24,[],.false,[],none,[]⟩),(49,⟨.true,y28,.false,104,[],.false,[],none,[]⟩),(50,⟨.true,y29,.true,48,[(0,1),(1,1)],.false,[(some .false),(some .false)],none,[]⟩),(51,⟨.true,y29,.true,48,[(0,1),(1,1)],.false,[(some .false),(some .false)],none,[]⟩),(52,⟨.true,.func,.false,8,[],.false,[],none,[]⟩),(53,⟨.true,y27,.true,104,[(0,1),(1,1),(2,3),(5,1),(6,1),(7,1),(8,1),(9,1),(10,1),(11,1),(12,1)],.true,[(some .false),(some .false),(some .true),(some .false),(some .false),(some .false),(some .false),(some .false),(some .false),(some .false),(some .false)],none,[]⟩),(54,⟨.true,y27,.true,104,[(0,1),(1,1),(2,3),(5,1),(6,1),(7,1),(8,1),(9,1),(10,1),(11,1),(12,1)],.true,[(some .false),(some .false),(some .true),(some .false),(some .false),(some .false),(some .false),(some .false),(some .false),(some .false),(some .false)],none,[]⟩),(55,⟨.true,y30,.false,32,[],.false,[],none,[]⟩),(56,⟨.true,.int .i64,.false,8,[],.false,[],none,[]⟩),(57,⟨.true,.other,.false,0,[],.false,[],none,[]⟩),(58,⟨.true,.func,.false,8,[],.false,[],none,[]⟩),(59,⟨.true,.func,.false,8,[],.false,[],none,[]⟩),(60,⟨.true,y33,.true,304,[(0,17),(17,10),(27,2),(29,1)],.false,[(some .true),(some .true),(some .true),(some .false)],none,[]⟩),(61,⟨.true,y33,.true,304,[(0,17),(17,10),(27,2),(29,1)],.false,[(some .true),(some .true),(some .true),(some .false)],none,[]⟩),(62,⟨.true,.func,.false,8,[],.false,[],none,[]⟩),(63,⟨.true,.func,.false,8,[],.false,[],none,[]⟩),(64,⟨.true,.func,.false,8,[],.false,[],none,[]⟩),(65,⟨.true,y34,.false,1,[],.false,[],none,[]⟩),(66,⟨.true,y19,.true,24,[(0,1),(1,1)],.true,[(some .false),(some .false)],none,[]⟩),(67,⟨.true,y19,.true,24,[(0,1),(1,1)],.true,[(some .false),(some .false)],none,[]⟩),(68,⟨.true,y8,.true,32,[(0,1),(1,1),(2,1),(3,1)],.true,[(some .false),(some .false),(some .false),(some .false)],none,[]⟩),(69,⟨.true,y8,.true,32,[(0,1),(1,1),(2,1),(3,1)],.true,[(some .false),(some .false),(some .false),(some .false)],none,[]⟩),(70,⟨.true,.func,.false,8,[],.false,[],none,[]⟩),(71,⟨.true,.other,.false,8,[],.false,[],(some (.int .i64,.int .i64)),[]⟩),(72,⟨.true,.other,.false,0,[],.false,[],none,[]⟩),(73,⟨.true,.func,.false,8,[],.false,[],none,[]⟩),(74,⟨.true,.other,.false,0,[],.false,[],none,[]⟩),(75,⟨.true,.func,.false,8,[],.false,[],none,[]⟩),(76,⟨.true,.other,.false,0,[],.false,[],none,[]⟩),(77,⟨.true,.func,.false,8,[],.false,[],none,[]⟩),(78,⟨.true,y35,.false,24,[],.false,[],none,[]⟩),(79,⟨.true,y37,.true,48,[(0,1),(1,2),(3,1)],.false,[(some .false),(some .true),(some .false)],none,[]⟩),(80,⟨.true,y37,.true,48,[(0,1),(1,2),(3,1)],.false,[(some .false),(some .true),(some .false)],none,[]⟩),(81,⟨.true,.other,.false,0,[],.false,[],none,[]⟩),(82,⟨.true,.func,.false,8,[],.false,[],none,[]⟩),(83,⟨.true,.func,.false,8,[],.false,[],none,[]⟩),(84,⟨.true,.func,.false,8,[],.false,[],none,[]⟩),(85,⟨.true,.func,.false,8,[],.false,[],none,[]⟩),(86,⟨.true,y39,.false,24,[],.false,[],none,[]⟩),(87,⟨.true,y43,.true,328,[(0,17),(17,10),(27,2),(29,1),(30,1)],.false,[(some .true),(some .true),(some .true),(some .false),(some .false)],none,[]⟩),(88,⟨.true,y43,.true,328,[(0,17),(17,10),(27,2),(29,1),(30,1)],.false,[(some .true),(some .true),(some .true),(some .false),(some .false)],none,[]⟩),(89,⟨.true,.other,.false,0,[],.false,[],none,[]⟩),(90,⟨.true,.func,.false,8,[],.false,[],none,[]⟩),(91,⟨.true,y47,.false,48,[],.false,[],none,[]⟩),(92,⟨.true,.other,.false,0,[],.false,[],none,[]⟩),(93,⟨.true,.func,.false,8,[],.false,[],none,[]⟩),(94,⟨.true,.func,.false,8,[],.false,[],none,[]⟩),(95,⟨.true,y46,.true,48,[(0,1),(1,1),(2,2),(4,2)],.true,[(some .false),(some .false),(some .true),(some .true)],none,[]⟩),(96,⟨.true,y46,.true,48,[(0,1),(1,1),(2,2),(4,2)],.true,[(some .false),(some .false),(some .true),(some .true)],none,[]⟩),(97,⟨.true,.other,.false,0,[],.false,[],none,[]⟩),(98,⟨.true,.func,.false,8,[],.false,[],none,[]⟩),(99,⟨.true,.func,.false,8,[],.false,[],none,[]⟩),(100,⟨.true,.func,.false,8,[],.false,[],none,[]⟩),(101,⟨.true,y48,.false,56,[],.false,[],none,[]⟩),(102,⟨.true,.other,.false,0,[],.false,[],none,[]⟩),(103,⟨.true,.func,.false,8,[],.false,[],none,[]⟩),(104,⟨.true,.func,.false,8,[],.false,[],none,[]⟩),(105,⟨.true,y23,.true,56,[(0,1),(1,1),(2,1),(3,1),(4,1),(5,1),(6,1)],.true,[(some .false),(some .false),(some .false),(some .false),(some .false),(some .false),(some .false)],none,[]⟩),(106,⟨.true,y23,.true,56,[(0,1),(1,1),(2,1),(3,1),(4,1),(5,1),(6,1)],.true,[(some .false),(some .false),(some .false),(some .false),(some .false),(some .false),(some .false)],none,[]⟩),(107,⟨.true,.func,.false,8,[],.false,[],none,[]⟩),(108,⟨.true,.func,.false,8,[],.false,[],none,[]⟩),(109,⟨.true,.func,.false,8,[],.false,[],none,[]⟩),(110,⟨.true,.ptr,.false,8,[],.false,[],none,[]⟩),(111,⟨.true,.other,.false,8,[],.false,[],none,[]⟩),(112,⟨.true,.other,.false,0,[],.false,[],none,[]⟩),(113,⟨.true,.func,.false,8,[],.false,[],none,[]⟩),(114,⟨.true,.func,.false,8,[],.false,[],none,[]⟩),(115,⟨.true,.func,.false,8,[],.false,[],none,[]⟩),(116,⟨.true,y38,.false,16,[],.false,[],none,[]⟩),(117,⟨.true,.func,.false,8,[],.false,[],none,[]⟩),(118,⟨.true,.func,.false,8,[],.false,[],none,[]⟩),(119,⟨.true,.func,.false,8,[],.false,[],none,[]⟩),(120,⟨.true,.func,.false,8,[],.false,[],none,[]⟩),(121,⟨.true,.func,.false,8,[],.false,[],none,[]⟩),(122,⟨.true,.func,.false,8,[],.false,[],none,[]⟩),(123,⟨.true,.ptr,.false,8,[],.false,[],none,[]⟩),(124,⟨.true,.func,.false,8,[],.false,[],none,[]⟩),(125,⟨.true,.func,.false,8,[],.false,[],none,[]⟩),(126,⟨.true,.func,.false,8,[],.false,[],none,[]⟩),(127,⟨.true,.func,.false,8,[],.false,[],none,[]⟩),(128,⟨.true,y38,.false,16,[],.false,[],none,[]⟩),(129,⟨.true,.other,.false,0,[],.false,[],none,[]⟩),(130,⟨.true,.func,.false,8,[],.false,[],none,[]⟩),(131,⟨.true,y6,.true,16,[(0,1),(1,1)],.true,[(some .false),(some .false)],none,[]⟩),(132,⟨.true,y6,.true,16,[(0,1),(1,1)],.true,[(some .false),(some .false)],none,[]⟩),(133,⟨.true,.func,.false,8,[],.false,[],none,[]⟩),(134,⟨.true,.func,.false,8,[],.false,[],none,[]⟩),(135,⟨.true,.func,.false,8,[],.false,[],none,[]⟩),(136,⟨.true,.func,.false,8,[],.false,[],none,[]⟩),(137,⟨.true,.func,.false,8,[],.false,[],none,[]⟩),(138,⟨.true,.other,.false,0,[],.false,[],none,[]⟩),(139,⟨.true,.func,.false,8,[],.false,[],none,[]⟩),(140,⟨.true,.other,.false,0,[],.false,[],none,[]⟩),(141,⟨.true,.func,.false,8,[],.false,[],none,[]⟩),(142,⟨.true,y38,.false,16,[],.false,[],none,[]⟩),(143,⟨.true,.func,.false,8,[],.false,[],none,[]⟩),(144,⟨.true,.other,.false,0,[],.false,[],none,[]⟩),(145,⟨.true,.func,.false,8,[],.false,[],none,[]⟩),(146,⟨.true,.func,.false,8,[],.false,[],none,[]⟩),(147,⟨.true,.func,.false,8,[],.false,[],none,[]⟩),(148,⟨.true,.other,.false,0,[],.false,[],none,[]⟩),(149,⟨.true,.func,.false,8,[],.false,[],none,[]⟩),(150,⟨.true,.func,.false,8,[],.false,[],none,[]⟩),(151,⟨.true,.func,.false,8,[],.false,[],none,[]⟩),(152,⟨.true,.ptr,.false,8,[],.false,[],none,[]⟩),(153,⟨.true,.func,.false,8,[],.false,[],none,[]⟩),(154,⟨.true,y54,.true,552,[(0,31),(31,17),(48,2),(50,1)],.false,[(some .true),(some .true),(some .true),(some .false)],none,[]⟩),(155,⟨.true,y54,.true,552,[(0,31),(31,17),(48,2),(50,1)],.false,[(some .true),(some .true),(some .true),(some .false)],none,[]⟩),(156,⟨.true,.other,.false,0,[],.false,[],none,[]⟩),(157,⟨.true,.func,.false,8,[],.false,[],none,[]⟩),(158,⟨.true,.func,.false,8,[],.false,[],none,[]⟩),(159,⟨.true,.func,.false,8,[],.false,[],none,[]⟩),(160,⟨.true,.func,.false,8,[],.false,[],none,[]⟩),(161,⟨.true,.func,.false,8,[],.false,[],none,[]⟩),(162,⟨.true,.ptr,.false,8,[],.false,[],none,[]⟩),(163,⟨.true,y59,.true,376,[(0,17),(17,10),(27,2),(29,4),(33,1),(34,1)],.false,[(some .true),(some .true),(some .true),(some .true),(some .false),(some .false)],none,[]⟩),(164,⟨.true,y59,.true,376,[(0,17),(17,10),(27,2),(29,4),(33,1),(34,1)],.false,[(some .true),(some .true),(some .true),(some .true),(some .false),(some .false)],none,[]⟩),(165,⟨.true,.func,.false,8,[],.false,[],none,[]⟩),(166,⟨.true,.func,.false,8,[],.false,[],none,[]⟩),(167,⟨.true,.func,.false,8,[],.false,[],none,[]⟩),(168,⟨.true,.int .u64,.false,8,[],.false,[],none,[]⟩),(169,⟨.true,.func,.false,8,[],.false,[],none,[]⟩),(170,⟨.true,.func,.false,8,[],.false,[],none,[]⟩),(171,⟨.true,.func,.false,8,[],.false,[],none,[]⟩),(172,⟨.true,.func,.false,8,[],.false,[],none,[]⟩),(173,⟨.true,y61,.true,24,[(0,1),(1,1),(2,1)],.true,[(some .false),(some .false),(some .false)],none,[]⟩),(174,⟨.true,y61,.true,24,[(0,1),(1,1),(2,1)],.true,[(some .false),(some .false),(some .false)],none,[]⟩),(175,⟨.true,.func,.false,8,[],.false,[],none,[]⟩),(176,⟨.true,.func,.false,8,[],.false,[],none,[]⟩),(177,⟨.true,.other,.false,0,[],.false,[],none,[]⟩),(178,⟨.true,.func,.false,8,[],.false,[],none,[]⟩),(179,⟨.true,.func,.false,8,[],.false,[],none,[]⟩),(180,⟨.true,.func,.false,8,[],.false,[],none,[]⟩),(181,⟨.true,.func,.false,8,[],.false,[],none,[]⟩),(182,⟨.true,.other,.false,0,[],.false,[],none,[]⟩),(183,⟨.true,.func,.false,8,[],.false,[],none,[]⟩),(184,⟨.true,.func,.false,8,[],.false,[],none,[]⟩),(185,⟨.true,.other,.false,8,[],.false,[],(some (.str,.bool)),[]⟩),(186,⟨.true,.func,.false,8,[],.false,[],none,[]⟩),(187,⟨.true,.other,.false,8,[],.false,[],(some (.int .i64,.bool)),[]⟩),(188,⟨.true,.func,.false,8,[],.false,[],none,[]⟩),(189,⟨.true,.other,.false,0,[],.false,[],none,[]⟩),(190,⟨.true,.func,.false,8,[],.false,[],none,[]⟩),(191,⟨.true,.func,.false,8,[],.false,[],none,[]⟩),(192,⟨.true,.func,.false,8,[],.false,[],none,[]⟩),(193,⟨.true,.other,.false,0,[],.false,[],none,[]⟩),(194,⟨.true,.func,.false,8,[],.false,[],none,[]⟩),(195,⟨.true,.func,.false,8,[],.false,[],none,[]⟩),(196,⟨.true,.func,.false,8,[],.false,[],none,[]⟩),(197,⟨.true,y62,.false,24,[],.false,[],none,[]⟩),(198,⟨.true,.func,.false,8,[],.false,[],none,[]⟩),(199,⟨.true,.func,.false,8,[],.false,[],none,[]⟩),(200,⟨.true,.func,.false,8,[],.false,[],none,[]⟩),(201,⟨.true,.func,.false,8,[],.false,[],none,[]⟩),(202,⟨.true,y61,.true,24,[(0,1),(1,1),(2,1)],.true,[(some .false),(some .false),(some .false)],none,[]⟩),(203,⟨.true,y61,.true,24,[(0,1),(1,1),(2,1)],.true,[(some .false),(some .false),(some .false)],none,[]⟩),(204,⟨.true,.func,.false,8,[],.false,[],none,[]⟩),(205,⟨.true,y61,.true,24,[(0,1),(1,1),(2,1)],.true,[(some .false),(some .false),(some .false)],none,[]⟩),(206,⟨.true,y61,.true,24,[(0,1),(1,1),(2,1)],.true,[(some .false),(some .false),(some .false)],none,[]⟩),(207,⟨.true,.func,.false,8,[],.false,[],none,[]⟩),(208,⟨.true,.func,.false,8,[],.false,[],none,[]⟩),(209,⟨.true,.func,.false,8,[],.false,[],none,[]⟩),(210,⟨.true,y63,.false,4,[],.false,[],none,[]⟩),(211,⟨.true,y64,.true,32,[(0,1),(1,1)],.false,[(some .false),(some .false)],none,[]⟩),(212,⟨.true,y64,.true,32,[(0,1),(1,1)],.false,[(some .false),(some .false)],none,[]⟩),(213,⟨.true,.func,.false,8,[],.false,[],none,[]⟩),(214,⟨.true,.func,.false,8,[],.false,[],none,[]⟩),(215,⟨.true,.func,.false,8,[],.false,[],none,[]⟩),(216,⟨.true,.func,.false,8,[],.false,[],none,[]⟩),(217,⟨.true,.ptr,.false,8,[],.false,[],none,[("Len",113),("Less",241),("Pop",242),("Push",243),("Swap",244)]⟩),(218,⟨.true,y66,.true,376,[(0,31),(31,1),(32,1)],.false,[(some .true),(some .false),(some .false)],none,[]⟩),(219,⟨.true,y66,.true,376,[(0,31),(31,1),(32,1)],.false,[(some .true),(some .false),(some .false)],none,[]⟩),(220,⟨.true,.func,.false,8,[],.false,[],none,[]⟩),(221,⟨.true,.func,.false,8,[],.false,[],none,[]⟩),(222,⟨.true,.func,.false,8,[],.false,[],none,[]⟩),(223,⟨.true,.func,.false,8,[],.false,[],none,[]⟩),(224,⟨.true,.func,.false,8,[],.false,[],none,[]⟩),(225,⟨.true,.func,.false,8,[],.false,[],none,[]⟩),(226,⟨.true,.func,.false,8,[],.false,[],none,[]⟩),(227,⟨.true,.func,.false,8,[],.false,[],none,[]⟩),(228,⟨.true,.func,.false,8,[],.false,[],none,[]⟩),(229,⟨.true,.func,.false,8,[],.false,[],none,[]⟩),(230,⟨.true,.func,.false,8,[],.false,[],none,[]⟩),(231,⟨.true,.other,.false,0,[],.false,[],none,[]⟩),(232,⟨.true,.func,.false,8,[],.false,[],none,[]⟩),(233,⟨.true,.func,.false,8,[],.false,[],none,[]⟩),(234,⟨.true,.func,.false,8,[],.false,[],none,[]⟩),(235,⟨.true,.other,.false,0,[],.false,[],none,[]⟩),(236,⟨.true,.func,.false,8,[],.false,[],none,[]⟩),(237,⟨.true,.other,.false,0,[],.false,[],none,[]⟩),(238,⟨.true,.func,.false,8,[],.false,[],none,[]⟩),(239,⟨.true,.func,.false,8,[],.false,[],none,[]⟩),(240,⟨.true,.func,.false,8,[],.false,[],none,[]⟩),(241,⟨.true,.func,.false,8,[],.false,[],none,[]⟩),(242,⟨.true,.func,.false,8,[],.false,[],none,[]⟩),(243,⟨.true,.func,.false,8,[],.false,[],none,[]⟩),(244,⟨.true,.func,.false,8,[],.false,[],none,[]⟩),(245,⟨.true,.func,.false,8,[],.false,[],none,[]⟩),(246,⟨.true,.func,.false,8,[],.false,[],none,[]⟩),(247,⟨.true,.func,.false,8,[],.false,[],none,[]⟩),(248,⟨.true,.func,.false,8,[],.false,[],none,[]⟩),(249,⟨.true,.func,.false,8,[],.false,[],none,[]⟩),(250,⟨.true,.func,.false,8,[],.false,[],none,[]⟩),(251,⟨.true,.func,.false,8,[],.false,[],none,[]⟩),(252,⟨.true,.func,.false,8,[],.false,[],none,[]⟩),(253,⟨.true,.other,.false,0,[],.false,[],none,[]⟩),(254,⟨.true,.func,.false,8,[],.false,[],none,[]⟩),(255,⟨.true,.func,.false,8,[],.false,[],none,[]⟩),(256,⟨.true,.func,.false,8,[],.false,[],none,[]⟩),(257,⟨.true,.func,.false,8,[],.false,[],none,[]⟩),(258,⟨.true,.func,.false,8,[],.false,[],none,[]⟩),(259,⟨.true,.func,.false,8,[],.false,[],none,[]⟩),(260,⟨.true,.func,.false,8,[],.false,[],none,[]⟩),(261,⟨.true,.other,.false,0,[],.false,[],none,[]⟩),(262,⟨.true,.func,.false,8,[],.false,[],none,[]⟩),(263,⟨.true,.func,.false,8,[],.false,[],none,[]⟩),(264,⟨.true,.func,.false,8,[],.false,[],none,[]⟩),(265,⟨.true,.other,.false,16,[],.false,[],none,[]⟩),(266,⟨.true,.other,.false,16,[],.false,[],none,[]⟩),(267,⟨.true,.func,.false,8,[],.false,[],none,[]⟩),(268,⟨.true,.func,.false,8,[],.false,[],none,[]⟩),(269,⟨.true,.func,.false,8,[],.false,[],none,[]⟩),(270,⟨.true,.func,.false,8,[],.false,[],none,[]⟩),(271,⟨.true,.func,.false,8,[],.false,[],none,[]⟩),(272,⟨.true,.func,.false,8,[],.false,[],none,[]⟩),(273,⟨.true,.func,.false,8,[],.false,[],none,[]⟩),(274,⟨.true,y4,.false,8,[],.false,[],none,[]⟩),(275,⟨.true,.func,.false,8,[],.false,[],none,[]⟩),(276,⟨.true,.func,.false,8,[],.false,[],none,[]⟩),(277,⟨.true,.func,.false,8,[],.false,[],none,[]⟩),(278,⟨.true,.int .u64,.false,8,[],.false,[],none,[]⟩),(279,⟨.true,y67,.true,16,[(0,1),(1,1)],.true,[(some .false),(some .false)],none,[]⟩),(280,⟨.true,y67,.true,16,[(0,1),(1,1)],.true,[(some .false),(some .false)],none,[]⟩),(281,⟨.true,.func,.false,8,[],.false,[],none,[]⟩),(282,⟨.true,.func,.false,8,[],.false,[],none,[]⟩),(283,⟨.true,.func,.false,8,[],.false,[],none,[]⟩),(284,⟨.true,.func,.false,8,[],.false,[],none,[]⟩),(285,⟨.true,.func,.false,8,[],.false,[],none,[]⟩),(286,⟨.true,.func,.false,8,[],.false,[],none,[]⟩),(287,⟨.true,.func,.false,8,[],.false,[],none,[]⟩),(288,⟨.true,.func,.false,8,[],.false,[],none,[]⟩),(289,⟨.true,.func,.false,8,[],.false,[],none,[]⟩),(290,⟨.true,.func,.false,8,[],.false,[],none,[]⟩),(291,⟨.true,.func,.false,8,[],.false,[],none,[]⟩),(292,⟨.true,.func,.false,8,[],.false,[],none,[]⟩),(293,⟨.true,.func,.false,8,[],.false,[],none,[]⟩),(294,⟨.true,.int .u32,.false,4,[],.false,[],none,[]⟩),(295,⟨.true,.func,.false,8,[],.false,[],none,[]⟩),(296,⟨.true,.func,.false,8,[],.false,[],none,[]⟩),(297,⟨.true,.func,.false,8,[],.false,[],none,[]⟩),(298,⟨.true,.func,.false,8,[],.false,[],none,[]⟩),(299,⟨.true,.func,.false,8,[],.false,[],none,[]⟩),(300,⟨.true,.func,.false,8,[],.false,[],none,[]⟩),(301,⟨.true,.other,.false,0,[],.false,[],none,[]⟩),(302,⟨.true,.func,.false,8,[],.false,[],none,[]⟩),(303,⟨.true,.func,.false,8,[],.false,[],none,[]⟩),(304,⟨.true,.func,.false,8,[],.false,[],none,[]⟩),(305,⟨.true,.func,.false,8,[],.false,[],none,[]⟩),(306,⟨.true,.func,.false,8,[],.false,[],none,[]⟩),(307,⟨.true,.func,.false,8,[],.false,[],none,[]⟩),(308,⟨.true,.func,.false,8,[],.false,[],none,[]⟩),(309,⟨.true,y4,.false,8,[],.false,[],none,[]⟩),(310,⟨.true,.func,.false,8,[],.false,[],none,[]⟩),(311,⟨.true,.func,.false,8,[],.false,[],none,[]⟩),(312,⟨.true,.func,.false,8,[],.false,[],none,[]⟩),(313,⟨.true,.func,.false,8,[],.false,[],none,[]⟩),(314,⟨.true,.func,.false,8,[],.false,[],none,[]⟩),(315,⟨.true,.func,.false,8,[],.false,[],none,[]⟩),(316,⟨.true,.func,.false,8,[],.false,[],none,[]⟩),(317,⟨.true,.func,.false,8,[],.false,[],none,[]⟩),(318,⟨.true,.func,.false,8,[],.false,[],none,[]⟩),(319,⟨.true,y4,.false,8,[],.false,[],none,[]⟩),(320,⟨.true,.func,.false,8,[],.false,[],none,[]⟩),(321,⟨.true,.func,.false,8,[],.false,[],none,[]⟩),(322,⟨.true,.func,.false,8,[],.false,[],none,[]⟩),(323,⟨.true,.other,.false,16,[],.false,[],none,[]⟩),(324,⟨.true,.other,.false,16,[],.false,[],none,[]⟩),(325,⟨.true,.func,.false,8,[],.false,[],none,[]⟩),(326,⟨.true,.ptr,.false,8,[],.false,[],none,[]⟩),(327,⟨.true,y70,.true,40,[(0,1),(1,1),(2,1),(3,1)],.false,[(some .false),(some .false),(some .false),(some .false)],none,[]⟩),(328,⟨.true,y70,.true,40,[(0,1),(1,1),(2,1),(3,1)],.false,[(some .false),(some .false),(some .false),(some .false)],none,[]⟩),(332,⟨.true,.int .u8,.false,1,[],.false,[],none,[]⟩),(333,⟨.true,.int .u8,.false,1,[],.false,[],none,[]⟩),(334,⟨.true,.func,.false,8,[],.false,[],none,[]⟩),(335,⟨.true,.ptr,.false,8,[],.false,[],none,[]⟩),(336,⟨.true,.int .i32,.false,4,[],.false,[],none,[]⟩),(337,⟨.true,.int .i32,.false,4,[],.false,[],none,[]⟩),(338,⟨.true,y80,.true,48,[(0,1),(1,1),(2,1),(3,1),(4,1),(5,1),(6,1),(7,1),(8,1),(9,1),(10,1)],.false,[(some .false),(some .false),(some .false),(some .false),(some .false),(some .false),(some .false),(some .false),(some .false),(some .false),(some .false)],none,[]⟩),(339,⟨.true,y80,.true,48,[(0,1),(1,1),(2,1),(3,1),(4,1),(5,1),(6,1),(7,1),(8,1),(9,1),(10,1)],.false,[(some .false),(some .false),(some .false),(some .false),(some .false),(some .false),(some .false),(some .false),(some .false),(some .false),(some .false)],none,[]⟩),(340,⟨.true,.pair .str .unit,.true,16,[(0,1)],.true,[(some .false)],none,[]⟩),(341,⟨.true,.pair .str .unit,.true,16,[(0,1)],.true,[(some .false)],none,[]⟩),(342,⟨.true,.other,.false,8,[],.false,[],none,[]⟩)]
theorem tis_ok:tisOk Tryz.prog tis = true:=by kernel_rfl
def modes:List (Nat × List (Nat × Ty)):=[(17,[(1,y81)]),(18,[(0,y16),(2,y29)]),(21,[(0,y29)]),(22,[(0,y29)]),(23,[(0,y16)]),(24,[(0,y16)]),(25,[(0,y16),(2,y29),(3,y30)]),(26,[(0,y16),(2,y29),(3,y37)]),(27,[(0,y30),(1,y30)]),(28,[(0,y16),(2,y29),(3,y37)]),(29,[(0,y16),(2,y29)]),(30,[(0,y43),(1,y37)]),(31,[(0,y29),(1,y37)]),(32,[(0,y43)]),(33,[(0,y43)]),(35,[(0,y16),(2,y29),(3,y30)]),(36,[(0,y16),(2,y29),(3,y30)]),(37,[(0,y30)]),(39,[(0,y48)]),(40,[(0,y30)]),(48,[(1,y81)]),(49,[(1,y29)]),(50,[(0,y20)]),(51,[(0,y28)]),(52,[(0,y16)]),(53,[(0,y16)]),(54,[(0,y16)]),(55,[(0,y43),(1,y30)]),(58,[(0,y16),(2,y29)]),(59,[(0,y4)]),(60,[(0,y16)]),(61,[(0,y16)]),(62,[(0,y43),(1,y37)]),(63,[(0,y43),(1,y37)]),(64,[(0,y43),(1,y4)]),(65,[(0,y29)]),(66,[(0,y43),(1,y37)]),(67,[(0,y37)]),(68,[(0,y43)]),(69,[(0,y48),(1,y48)]),(70,[(0,y16),(2,y29),(3,y30)]),(72,[(1,y37)]),(73,[(0,y48)]),(74,[(0,y30)]),(77,[(1,y4)]),(78,[(0,y62)]),(79,[(0,y16)]),(81,[(0,y16)]),(83,[(0,y16)]),(86,[(1,y37)]),(90,[(0,y43),(1,y37)]),(91,[(1,y16)]),(95,[(0,y16)]),(96,[(0,y16)]),(97,[(0,y48)]),(98,[(1,y37)]),(99,[(0,y4)]),(100,[(0,y82)]),(105,[(0,y16)]),(109,[(0,y64),(1,y64)]),(111,[(0,y64),(1,y64)]),(119,[(0,y4)]),(132,[(0,y16)]),(133,[(0,y28)]),(135,[(0,y4)]),(157,[(0,y64),(1,y64)]),(159,[(0,y64)]),(160,[(0,y63),(1,y63)]),(191,[(0,y64)]),(199,[(1,y4)]),(203,[(0,y4)]),(207,[(0,y4)]),(208,[(0,y4)])]
variable {ι:Type} {E:Fil ι}
noncomputable def t0:Tb Tryz.prog:=⟨fun _=>tnil,fun _ g=>tnil_ok g⟩
abbrev ty0:Ty:=((Ty.int .i64).pair ((Ty.int .i64).pair (((Ty.int .i64).pair ((Ty.int .i64).pair (Ty.int .i64))).pair ((Ty.int .i64).pair ((Ty.int .i64).pair ((Ty.int .i64).pair ((Ty.int .i64).pair ((Ty.int .i64).pair ((Ty.int .i64).pair ((Ty.int .i64).pair (Ty.int .i64)))))))))))
abbrev ty1:Ty:=((Ty.int .i64).pair ((Ty.int .i64).pair (((Ty.int .i64).pair (Ty.int .i64)).pair ((Ty.int .i64).pair (Ty.int .i64)))))
abbrev ty2:Ty:=((Ty.int .i64).pair ((Ty.int .i64).pair ((Ty.int .i64).pair (Ty.int .i64))))
def bs2:ByteArray:=ByteArray.mk (#[97,98,57,45,122,48])
def bs0:ByteArray:=ByteArray.mk ((([0,1,2,2,3,3,3,3,4,4,4,4,4,4,4,4,5,5,5,5,5,5,5,5,5,5,5,5,5,5,5,5,6,6,6,6,6,6,6,6,6,6,6,6,6,6,6,6,6,6,6,6,6,6,6,6,6,6,6,6,6,6,6,6].append [7,7,7,7,7,7,7,7,7,7,7,7,7,7,7,7,7,7,7,7,7,7,7,7,7,7,7,7,7,7,7,7,7,7,7,7,7,7,7,7,7,7,7,7,7,7,7,7,7,7,7,7,7,7,7,7,7,7,7,7,7,7,7,7]).append ([8,8,8,8,8,8,8,8,8,8,8,8,8,8,8,8,8,8,8,8,8,8,8,8,8,8,8,8,8,8,8,8,8,8,8,8,8,8,8,8,8,8,8,8,8,8,8,8,8,8,8,8,8,8,8,8,8,8,8,8,8,8,8,8].append [8,8,8,8,8,8,8,8,8,8,8,8,8,8,8,8,8,8,8,8,8,8,8,8,8,8,8,8,8,8,8,8,8,8,8,8,8,8,8,8,8,8,8,8,8,8,8,8,8,8,8,8,8,8,8,8,8,8,8,8,8,8,8,8])).toArray)
def bs1:ByteArray:=ByteArray.mk (#[97])
def bs3:ByteArray:=ByteArray.mk (#[120])
namespace g0 -- spymake_Below
abbrev R:Type:=Int
abbrev A:Type:=Int × Int
abbrev Y:=A→Option R
def lv:List (Nat × List Nat):=[(2000000,[4]),(1000006,[0])]
noncomputable def cs:Nat→Ctx:=ctxOf tis modes t0.1 lv
theorem cs_ok (n:Nat):CtxOk Tryz.prog (cs n):=ctxOf_ok rfl tis_ok t0.2 n
def sh:AS:=⟨[.c (.int .i64),.c (.int .i64)],[]⟩
def os:OS:=⟨.c (.int .i64),[]⟩
def enc (r:R):Out:=os.enc r
def dec:Out→Option R:=os.dec
noncomputable def b0:Code:=subF [] Tryz.f20
noncomputable def K0 (k:Nat):Kt R:=kTop (cs k) Tryz.f20 dec
noncomputable def c1000006:Code:=sub [1,1,1,1] b0
noncomputable def J1000006 ( k:Nat):Kt R:=kAt (cs k) (loopN cs k) [1,1,1,1] b0 (K0 k)
abbrev T0:Type:=Int
abbrev Y0:=T0→Option R
def s0:T0→St:=fun a=>⟨16,0,[(0,.c (.int .i64 a))],[],[(256000000,.gone)]⟩
noncomputable def l0 ( k:Nat) (v:T0):Option R:=held (run (cs k) (loopN cs k) c1000006 (J1000006 k) (s0 v))
noncomputable def D0 (v:T0):Option R:=lim fun L=>l0 (L 0) v
theorem D0_cn (v:T0):Cn late (D0 v) fun L=>l0 (L 0) v:=of_lim
def d0:Y0:=fun a =>
some a
theorem d0_cn:∀ v:T0,Cn E (d0 v) fun i=>d0 v:=fun a=>.some
theorem l0_b ( k:Nat):∀ v:T0,run (cs k) (loopN cs k) c1000006 (J1000006 k) (s0 v) = d0 v:=fun a=>by kernel_rfl
theorem D0_of (v:T0) {r:R} (h:d0 v = some r):D0 v = some r:=join_of (fun L=>(held_eq _).trans (l0_b (L 0) v)) (d0_cn v) h
noncomputable def f (k:Nat):Y:=fun v=>held (runFn cs k Tryz.f20 (sh.args v) (sh.slots v) dec)
noncomputable def F:Y:=lm f
def d (p0:Y0):Y:=fun (a,b) =>
br (decide (b < 1)) (some 0) (br (!decide (b = 0)) (br (decide (a.tmod b < 0)) (p0 (wrap .i64 (a.tmod b + b))) (p0 (a.tmod b))) none)
theorem d_cn (k0:Pr E T0 R):∀ v:A,Cn E (d k0.p v) fun i=>d (k0.q i) v:=fun (a,b)=>(.br .some (.br (.br (k0.h _) (k0.h _)) .none))
theorem f_b (k:Nat):∀ v:A,f k v = d (l0 k) v:=fun (a,b)=>(held_eq _).trans (by kernel_rfl)
theorem F_of (v:A) {r:R} (h:d D0 v = some r):F v = some r:=join_of (fun L=>f_b (L 0) v) (d_cn (.mk fun v=>(D0_cn v).re [0]) v) h
noncomputable def spec (k:Nat):List AV→List Slot→Option Ans:=specS sh os (f k)
theorem spec_ok (k:Nat):SpecOk Tryz.prog 20 (spec k):=specS_ok cs_ok Tryz.func20 rfl rfl (fun _ _=>held_eq _) k
end g0
noncomputable def tg0:=t0.cons 20 g0.spec g0.spec_ok
namespace g1 -- spymake_Stream_Next
abbrev R:Type:=Int × List Int × Int
abbrev A:Type:=Int × List Int × Int
abbrev Y:=A→Option R
def lv:List (Nat × List Nat):=[(2000000,[4])]
noncomputable def cs:Nat→Ctx:=ctxOf tis modes tg0.1 lv
theorem cs_ok (n:Nat):CtxOk Tryz.prog (cs n):=ctxOf_ok rfl tis_ok tg0.2 n
def sh:AS:=⟨[.c (.ptr 128000000 0),.c (.int .i64)],[(.box [.frz (.int .i64),.int .i64])]⟩
def os:OS:=⟨.c (.int .i64),[(.box [.frz (.int .i64),.int .i64])]⟩
def enc (r:R):Out:=os.enc r
def dec:Out→Option R:=os.dec
noncomputable def b0:Code:=subF [] Tryz.f43
noncomputable def K0 (k:Nat):Kt R:=kTop (cs k) Tryz.f43 dec
noncomputable def f (k:Nat):Y:=fun v=>held (runFn cs k Tryz.f43 (sh.args v) (sh.slots v) dec)
noncomputable def F:Y:=lm f
noncomputable def d (p0:g0.Y):Y:=fun (a,b,e) =>
br (decide ((↑b.length:Int) = 0)) (bnd (p0 (wrap .i64 (wrap .i64 (e + 1) * 7919),a)) fun r=>some (r,b,wrap .i64 (e + 1))) (br (!decide ((↑b.length:Int) = 0)) (br (!decide ((↑b.length:Int) = 0)) (br (decide (0 ≤ (wrap .i64 (wrap .i64 (e + 1) - 1)).tmod (↑b.length:Int) ∧ (wrap .i64 (wrap .i64 (e + 1) - 1)).tmod (↑b.length:Int) < (↑b.length:Int))) (bnd (p0 (rd (Ty.int .i64) b ((wrap .i64 (wrap .i64 (e + 1) - 1)).tmod (↑b.length:Int)),1073741824)) fun r=>bnd (p0 (wrap .i64 (r + wrap .i64 (wrap .i64 ((wrap .i64 (wrap .i64 (e + 1) - 1)).tdiv (↑b.length:Int)) * wrap .i64 (7919 + (wrap .i64 (wrap .i64 (e + 1) - 1)).tmod (↑b.length:Int)))),a)) fun r=>some (r,b,wrap .i64 (e + 1))) none) none) none)
theorem d_cn (k0:Pr E g0.A g0.R):∀ v:A,Cn E (d k0.p v) fun i=>d (k0.q i) v:=fun (a,b,e)=>(.br (.bnd (k0.h _) fun _=>.some) (.br (.br (.br (.bnd (k0.h _) fun _=>(.bnd (k0.h _) fun _=>.some)) .none) .none) .none))
theorem f_b (k:Nat):∀ v:A,f k v = d (g0.f k) v:=fun (a,b,e)=>(held_eq _).trans (by kernel_rfl)
theorem F_of (v:A) {r:R} (h:d g0.F v = some r):F v = some r:=join_of (fun L=>f_b (L 0) v) (d_cn (lp g0.f 0) v) h
noncomputable def spec (k:Nat):List AV→List Slot→Option Ans:=specS sh os (f k)
theorem spec_ok (k:Nat):SpecOk Tryz.prog 43 (spec k):=specS_ok cs_ok Tryz.func43 rfl rfl (fun _ _=>held_eq _) k
end g1
noncomputable def tg1:=tg0.cons 43 g1.spec g1.spec_ok
namespace g2 -- spymake_Stream_Range
abbrev R:Type:=Int × List Int × Int
abbrev A:Type:=Int × Int × List Int × Int
abbrev Y:=A→Option R
def lv:List (Nat × List Nat):=[(2000000,[6])]
noncomputable def cs:Nat→Ctx:=ctxOf tis modes tg1.1 lv
theorem cs_ok (n:Nat):CtxOk Tryz.prog (cs n):=ctxOf_ok rfl tis_ok tg1.2 n
def sh:AS:=⟨[.c (.ptr 128000000 0),.c (.int .i64),.c (.int .i64)],[(.box [.frz (.int .i64),.int .i64])]⟩
def os:OS:=⟨.c (.int .i64),[(.box [.frz (.int .i64),.int .i64])]⟩
def enc (r:R):Out:=os.enc r
def dec:Out→Option R:=os.dec
noncomputable def b0:Code:=subF [] Tryz.f42
noncomputable def K0 (k:Nat):Kt R:=kTop (cs k) Tryz.f42 dec
noncomputable def f (k:Nat):Y:=fun v=>held (runFn cs k Tryz.f42 (sh.args v) (sh.slots v) dec)
noncomputable def F:Y:=lm f
def d (p0:g1.Y):Y:=fun (a,b,e,j) =>
br (decide (b < a)) (some (a,e,j)) (bnd (p0 (wrap .i64 (wrap .i64 (b - a) + 1),e,j)) fun r=>some (wrap .i64 (a + r.1),r.2.1,r.2.2))
theorem d_cn (k0:Pr E g1.A g1.R):∀ v:A,Cn E (d k0.p v) fun i=>d (k0.q i) v:=fun (a,b,e,j)=>(.br .some (.bnd (k0.h _) fun _=>.some))
theorem f_b (k:Nat):∀ v:A,f k v = d (g1.f k) v:=fun (a,b,e,j)=>(held_eq _).trans (by kernel_rfl)
theorem F_of (v:A) {r:R} (h:d g1.F v = some r):F v = some r:=join_of (fun L=>f_b (L 0) v) (d_cn (lp g1.f 0) v) h
noncomputable def spec (k:Nat):List AV→List Slot→Option Ans:=specS sh os (f k)
theorem spec_ok (k:Nat):SpecOk Tryz.prog 42 (spec k):=specS_ok cs_ok Tryz.func42 rfl rfl (fun _ _=>held_eq _) k
end g2
noncomputable def tg2:=tg1.cons 42 g2.spec g2.spec_ok
namespace g3 -- spymake_Stream_Vec
abbrev R:Type:=Int × Int × Int × List Int × Int
abbrev A:Type:=List Int × Int
abbrev Y:=A→Option R
def lv:List (Nat × List Nat):=[(2000000,[2]),(1000005,[2,4])]
noncomputable def cs:Nat→Ctx:=ctxOf tis modes tg2.1 lv
theorem cs_ok (n:Nat):CtxOk Tryz.prog (cs n):=ctxOf_ok rfl tis_ok tg2.2 n
def sh:AS:=⟨[(.c (.ptr 128000000 0))],[(.box [.frz (.int .i64),.int .i64])]⟩
def os:OS:=⟨.agg [.int .i64,.int .i64,.int .i64],[(.box [.frz (.int .i64),.int .i64])]⟩
def enc (r:R):Out:=os.enc r
def dec:Out→Option R:=os.dec
noncomputable def b0:Code:=subF [] Tryz.f44
noncomputable def K0 (k:Nat):Kt R:=kTop (cs k) Tryz.f44 dec
noncomputable def c1000005:Code:=sub [1,1,1,1] b0
noncomputable def J1000005 ( k:Nat):Kt R:=kAt (cs k) (loopN cs k) [1,1,1,1] b0 (K0 k)
abbrev T0:Type:=List Int × Int × Int × Int × Int × Int × Int × Int
abbrev Y0:=T0→Option R
def s0:T0→St:=fun (a,b,e,j,l,m,o,s)=>⟨31,1,[(2,.c (.ptr 64000000 0)),(4,.c (.ptr 64000001 0))],[],[(128000000,.box [.frz (.int .i64) a,.int .i64 b]),(256000000,.gone),(64000000,.box [.int .i64 e,.int .i64 j,.int .i64 l]),(64000001,.box [.int .i64 m,.int .i64 o,.int .i64 s])]⟩
noncomputable def l0 ( k:Nat) (v:T0):Option R:=held (run (cs k) (loopN cs k) c1000005 (J1000005 k) (s0 v))
noncomputable def D0 (v:T0):Option R:=lim fun L=>l0 (L 0) v
theorem D0_cn (v:T0):Cn late (D0 v) fun L=>l0 (L 0) v:=of_lim
def d0:Y0:=fun (a,b,e,j,l,m,o,s) =>
some (m,o,s,a,b)
theorem d0_cn:∀ v:T0,Cn E (d0 v) fun i=>d0 v:=fun (a,b,e,j,l,m,o,s)=>.some
theorem l0_b ( k:Nat):∀ v:T0,run (cs k) (loopN cs k) c1000005 (J1000005 k) (s0 v) = d0 v:=fun (a,b,e,j,l,m,o,s)=>by kernel_rfl
theorem D0_of (v:T0) {r:R} (h:d0 v = some r):D0 v = some r:=join_of (fun L=>(held_eq _).trans (l0_b (L 0) v)) (d0_cn v) h
noncomputable def f (k:Nat):Y:=fun v=>held (runFn cs k Tryz.f44 (sh.args v) (sh.slots v) dec)
noncomputable def F:Y:=lm f
noncomputable def d (p0:g1.Y) (p1:g2.Y) (p2:Y0):Y:=fun (a,b) =>
bnd (p0 (4,a,b)) fun r=>br (decide (0 ≤ r.1 ∧ r.1 < (↑[3,100,5000,1048576].length:Int))) (bnd (p1 (wrap .i64 (0 - rd (Ty.int .i64) [3,100,5000,1048576] r.1),rd (Ty.int .i64) [3,100,5000,1048576] r.1,r.2.1,r.2.2)) fun r_1=>bnd (p1 (wrap .i64 (0 - rd (Ty.int .i64) [3,100,5000,1048576] r.1),rd (Ty.int .i64) [3,100,5000,1048576] r.1,r_1.2.1,r_1.2.2)) fun r_2=>bnd (p1 (wrap .i64 (0 - rd (Ty.int .i64) [3,100,5000,1048576] r.1),rd (Ty.int .i64) [3,100,5000,1048576] r.1,r_2.2.1,r_2.2.2)) fun r=>br (decide (r_1.1 = 0) && (decide (r_2.1 = 0) && (decide (r.1 = 0) && true))) (p2 (r.2.1,r.2.2,0,0,0,1,r_2.1,r.1)) (p2 (r.2.1,r.2.2,0,0,0,r_1.1,r_2.1,r.1))) none
theorem d_cn (k0:Pr E g1.A g1.R) (k1:Pr E g2.A g2.R) (k2:Pr E T0 R):∀ v:A,Cn E (d k0.p k1.p k2.p v) fun i=>d (k0.q i) (k1.q i) (k2.q i) v:=fun (a,b)=>(.bnd (k0.h _) fun _=>(.br (.bnd (k1.h _) fun _=>(.bnd (k1.h _) fun _=>(.bnd (k1.h _) fun _=>(.br (k2.h _) (k2.h _))))) .none))
theorem f_b (k:Nat):∀ v:A,f k v = d (g1.f k) (g2.f k) (l0 k) v:=fun (a,b)=>(held_eq _).trans (by kernel_rfl)
theorem F_of (v:A) {r:R} (h:d g1.F g2.F D0 v = some r):F v = some r:=join_of (fun L=>f_b (L 0) v) (d_cn (lp g1.f 0) (lp g2.f 0) (.mk fun v=>(D0_cn v).re [0]) v) h
noncomputable def spec (k:Nat):List AV→List Slot→Option Ans:=specS sh os (f k)
theorem spec_ok (k:Nat):SpecOk Tryz.prog 44 (spec k):=specS_ok cs_ok Tryz.func44 rfl rfl (fun _ _=>held_eq _) k
end g3
noncomputable def tg3:=tg2.cons 44 g3.spec g3.spec_ok
namespace g4 -- spymake_Stream_Night
abbrev R:Type:=Int × Int × Int × Int × Int × Int × Int × Int × Int × Int × Int × Int × Int × Int × Int × Int × List Int × Int × List Int
abbrev A:Type:=Int × List Int × Int
abbrev Y:=A→Option R
def lv:List (Nat × List Nat):=[(2000000,[4]),(1000012,[0,4,5]),(13,[0,4,5,71,72]),(1000017,[0,4,5,7,71,72]),(1000018,[0,4,5,71,72])]
noncomputable def cs:Nat→Ctx:=ctxOf tis modes tg3.1 lv
theorem cs_ok (n:Nat):CtxOk Tryz.prog (cs n):=ctxOf_ok rfl tis_ok tg3.2 n
def sh:AS:=⟨[.c (.ptr 128000000 0),.c (.int .i64)],[(.box [.frz (.int .i64),.int .i64])]⟩
def os:OS:=⟨.agg [.int .i64,.int .i64,.int .i64,.int .i64,.int .i64,.int .i64,.int .i64,.int .i64,.int .i64,.int .i64,.int .i64,.int .i64,.int .i64,.int .i64,.int .i64,.int .i64,.sl 128000001],[.box [.frz (.int .i64),.int .i64],.row (.int .i64)]⟩
def enc (r:R):Out:=os.enc r
def dec:Out→Option R:=os.dec
noncomputable def b0:Code:=subF [] Tryz.f15
noncomputable def K0 (k:Nat):Kt R:=kTop (cs k) Tryz.f15 dec
noncomputable def c1000012:Code:=sub [1,1,1,1,1,1,1,1] b0
noncomputable def J1000012 ( k:Nat):Kt R:=kAt (cs k) (loopN cs k) [1,1,1,1,1,1,1,1] b0 (K0 k)
noncomputable def b13:Code:=sub [1,1,1,1,1,1,1,1,0,1,0,0] b0
noncomputable def K13 ( k:Nat):Kt R:=kAt (cs k) (loopN cs k) [1,1,1,1,1,1,1,1,0,1,0] b0 (K0 k)
noncomputable def c1000018:Code:=sub [1,1,1] b13
noncomputable def J1000018 ( k m1:Nat):Kt R:=kAt (cs m1) (loopN cs m1) [1,1,1] b13 (kLoop cs m1 b13 (K13 k))
noncomputable def c1000017:Code:=sub [1,1,0,0,1,1] b13
noncomputable def J1000017 ( k m1:Nat):Kt R:=kAt (cs m1) (loopN cs m1) [1,1,0,0,1,1] b13 (kLoop cs m1 b13 (K13 k))
abbrev T0:Type:=List Int × Int × Int × Int × Int × Int × Int × Int × Int × Int × Int × Int × Int × Int × Int × Int × Int × Int × Int × Int × Int × Int × Int × Int × Int × Int × Int × Int × Int × Int × Int × Int × Int × Int × List Int × List Int
abbrev Y0:=T0→Option R
noncomputable def s0:T0→St:=fun (a,b,e,j,l,m,o,s,t,u,w,x,y,z,B,C,D,G,H,I,J,K,P,N,O,T,S,Q,M,V,X,W,U,aa,Z,ab)=>⟨87,1,[(0,.c (.ptr 128000000 0)),(4,.c (.ptr 64000000 0)),(5,.c (.ptr 64000001 0))],[],[(128000000,.box [.frz (.int .i64) a,.int .i64 b]),(256000000,.gone),(64000000,.box [.int .i64 e,.int .i64 j,.int .i64 l,.int .i64 m,.int .i64 o,.int .i64 s,.int .i64 t,.int .i64 u,.int .i64 w,.int .i64 x,.int .i64 y,.int .i64 z,.int .i64 B,.int .i64 C,.int .i64 D,.int .i64 G,.sl 64000002]),(64000001,.box [.int .i64 H,.int .i64 I,.int .i64 J,.int .i64 K,.int .i64 P,.int .i64 N,.int .i64 O,.int .i64 T,.int .i64 S,.int .i64 Q,.int .i64 M,.int .i64 V,.int .i64 X,.int .i64 W,.int .i64 U,.int .i64 aa,.sl 64000003]),(64000002,.row (.int .i64) Z),(64000003,.row (.int .i64) ab)]⟩
noncomputable def l0 ( k:Nat) (v:T0):Option R:=held (run (cs k) (loopN cs k) c1000012 (J1000012 k) (s0 v))
noncomputable def D0 (v:T0):Option R:=lim fun L=>l0 (L 0) v
theorem D0_cn (v:T0):Cn late (D0 v) fun L=>l0 (L 0) v:=of_lim
abbrev T1:Type:=Int × Int × List Int × Int × Int × Int × Int × Int × Int × Int × Int × Int × Int × Int × Int × Int × Int × Int × Int × Int × Int × Int × Int × Int × Int × Int × Int × Int × Int × Int × Int × Int × Int × Int × Int × Int × List Int × List Int
abbrev Y1:=T1→Option R
noncomputable def s1:T1→St:=fun (a,b,e,j,l,m,o,s,t,u,w,x,y,z,B,C,D,G,H,I,J,K,P,N,O,T,S,Q,M,V,X,W,U,aa,Z,ab,ac,ad)=>⟨87,1,[(0,.c (.ptr 128000000 0)),(4,.c (.ptr 64000000 0)),(5,.c (.ptr 64000001 0)),(71,.c (.int .i64 a)),(72,.c (.int .i64 b))],[],[(128000000,.box [.frz (.int .i64) e,.int .i64 j]),(256000000,.gone),(64000000,.box [.int .i64 l,.int .i64 m,.int .i64 o,.int .i64 s,.int .i64 t,.int .i64 u,.int .i64 w,.int .i64 x,.int .i64 y,.int .i64 z,.int .i64 B,.int .i64 C,.int .i64 D,.int .i64 G,.int .i64 H,.int .i64 I,.sl 64000002]),(64000001,.box [.int .i64 J,.int .i64 K,.int .i64 P,.int .i64 N,.int .i64 O,.int .i64 T,.int .i64 S,.int .i64 Q,.int .i64 M,.int .i64 V,.int .i64 X,.int .i64 W,.int .i64 U,.int .i64 aa,.int .i64 Z,.int .i64 ab,.sl 64000003]),(64000002,.row (.int .i64) ac),(64000003,.row (.int .i64) ad)]⟩
noncomputable def l1 ( k n:Nat) (v:T1):Option R:=held (loopN cs n b13 (K13 k) (s1 v))
noncomputable def D1 (v:T1):Option R:=lim fun L=>l1 (L 0) (L 1) v
theorem D1_cn (v:T1):Cn late (D1 v) fun L=>l1 (L 0) (L 1) v:=of_lim
abbrev T2:Type:=Int × Int × Int × List Int × Int × Int × Int × Int × Int × Int × Int × Int × Int × Int × Int × Int × Int × Int × Int × Int × Int × Int × Int × Int × Int × Int × Int × Int × Int × Int × Int × Int × Int × Int × Int × Int × Int × List Int × List Int
abbrev Y2:=T2→Option R
noncomputable def s2:T2→St:=fun (a,b,e,j,l,m,o,s,t,u,w,x,y,z,B,C,D,G,H,I,J,K,P,N,O,T,S,Q,M,V,X,W,U,aa,Z,ab,ac,ad,ae)=>⟨87,1,[(0,.c (.ptr 128000000 0)),(4,.c (.ptr 64000000 0)),(5,.c (.ptr 64000001 0)),(7,.c (.int .i64 a)),(71,.c (.int .i64 b)),(72,.c (.int .i64 e))],[],[(128000000,.box [.frz (.int .i64) j,.int .i64 l]),(256000000,.gone),(64000000,.box [.int .i64 m,.int .i64 o,.int .i64 s,.int .i64 t,.int .i64 u,.int .i64 w,.int .i64 x,.int .i64 y,.int .i64 z,.int .i64 B,.int .i64 C,.int .i64 D,.int .i64 G,.int .i64 H,.int .i64 I,.int .i64 J,.sl 64000002]),(64000001,.box [.int .i64 K,.int .i64 P,.int .i64 N,.int .i64 O,.int .i64 T,.int .i64 S,.int .i64 Q,.int .i64 M,.int .i64 V,.int .i64 X,.int .i64 W,.int .i64 U,.int .i64 aa,.int .i64 Z,.int .i64 ab,.int .i64 ac,.sl 64000003]),(64000002,.row (.int .i64) ad),(64000003,.row (.int .i64) ae)]⟩
noncomputable def l2 ( k m1:Nat) (v:T2):Option R:=held (run (cs m1) (loopN cs m1) c1000017 (J1000017 k m1) (s2 v))
noncomputable def D2 (v:T2):Option R:=lim fun L=>l2 (L 0) (L 1) v
theorem D2_cn (v:T2):Cn late (D2 v) fun L=>l2 (L 0) (L 1) v:=of_lim
abbrev T3:Type:=Int × Int × List Int × Int × Int × Int × Int × Int × Int × Int × Int × Int × Int × Int × Int × Int × Int × Int × Int × Int × Int × Int × Int × Int × Int × Int × Int × Int × Int × Int × Int × Int × Int × Int × Int × Int × List Int × List Int
abbrev Y3:=T3→Option R
noncomputable def s3:T3→St:=fun (a,b,e,j,l,m,o,s,t,u,w,x,y,z,B,C,D,G,H,I,J,K,P,N,O,T,S,Q,M,V,X,W,U,aa,Z,ab,ac,ad)=>⟨87,1,[(0,.c (.ptr 128000000 0)),(4,.c (.ptr 64000000 0)),(5,.c (.ptr 64000001 0)),(71,.c (.int .i64 a)),(72,.c (.int .i64 b))],[],[(128000000,.box [.frz (.int .i64) e,.int .i64 j]),(256000000,.gone),(64000000,.box [.int .i64 l,.int .i64 m,.int .i64 o,.int .i64 s,.int .i64 t,.int .i64 u,.int .i64 w,.int .i64 x,.int .i64 y,.int .i64 z,.int .i64 B,.int .i64 C,.int .i64 D,.int .i64 G,.int .i64 H,.int .i64 I,.sl 64000002]),(64000001,.box [.int .i64 J,.int .i64 K,.int .i64 P,.int .i64 N,.int .i64 O,.int .i64 T,.int .i64 S,.int .i64 Q,.int .i64 M,.int .i64 V,.int .i64 X,.int .i64 W,.int .i64 U,.int .i64 aa,.int .i64 Z,.int .i64 ab,.sl 64000003]),(64000002,.row (.int .i64) ac),(64000003,.row (.int .i64) ad)]⟩
noncomputable def l3 ( k m1:Nat) (v:T3):Option R:=held (run (cs m1) (loopN cs m1) c1000018 (J1000018 k m1) (s3 v))
noncomputable def D3 (v:T3):Option R:=lim fun L=>l3 (L 0) (L 1) v
theorem D3_cn (v:T3):Cn late (D3 v) fun L=>l3 (L 0) (L 1) v:=of_lim
def d0 (p0:Y1):Y0:=fun (a,b,e,j,l,m,o,s,t,u,w,x,y,z,B,C,D,G,H,I,J,K,P,N,O,T,S,Q,M,V,X,W,U,aa,Z,ab) =>
p0 (S,0,a,b,e,j,l,m,o,s,t,u,w,x,y,z,B,C,D,G,H,I,J,K,P,N,O,T,S,Q,M,V,X,W,U,aa,Z,ab)
theorem d0_cn (k0:Pr E T1 R):∀ v:T0,Cn E (d0 k0.p v) fun i=>d0 (k0.q i) v:=fun (a,b,e,j,l,m,o,s,t,u,w,x,y,z,B,C,D,G,H,I,J,K,P,N,O,T,S,Q,M,V,X,W,U,aa,Z,ab)=>(k0.h _)
theorem l0_b ( k:Nat):∀ v:T0,run (cs k) (loopN cs k) c1000012 (J1000012 k) (s0 v) = d0 (l1 k k) v:=fun (a,b,e,j,l,m,o,s,t,u,w,x,y,z,B,C,D,G,H,I,J,K,P,N,O,T,S,Q,M,V,X,W,U,aa,Z,ab)=>by kernel_rfl
theorem D0_of (v:T0) {r:R} (h:d0 D1 v = some r):D0 v = some r:=join_of (fun L=>(held_eq _).trans (l0_b (L 0) v)) (d0_cn (.mk fun v=>(D1_cn v).re [0,0]) v) h
noncomputable def d1 (p0:g1.Y) (p1:Y2):Y1:=fun (a,b,e,j,l,m,o,s,t,u,w,x,y,z,B,C,D,G,H,I,J,K,P,N,O,T,S,Q,M,V,X,W,U,aa,Z,ab,ac,ad) =>
br (decide (b < a)) (bnd (p0 (5,e,j)) fun r=>br (decide (r.1 = 0)) (bnd (p0 (5,r.2.1,r.2.2)) fun r=>p1 (r.1,a,b,r.2.1,r.2.2,l,m,o,s,t,u,w,x,y,z,B,C,D,G,H,I,J,K,P,N,O,T,S,Q,M,V,X,W,U,aa,Z,ab,ac,ad)) (p1 (0,a,b,r.2.1,r.2.2,l,m,o,s,t,u,w,x,y,z,B,C,D,G,H,I,J,K,P,N,O,T,S,Q,M,V,X,W,U,aa,Z,ab,ac,ad))) (some (J,K,P,N,O,T,S,Q,M,V,X,W,U,aa,Z,ab,e,j,ad))
theorem d1_cn (k0:Pr E g1.A g1.R) (k1:Pr E T2 R):∀ v:T1,Cn E (d1 k0.p k1.p v) fun i=>d1 (k0.q i) (k1.q i) v:=fun (a,b,e,j,l,m,o,s,t,u,w,x,y,z,B,C,D,G,H,I,J,K,P,N,O,T,S,Q,M,V,X,W,U,aa,Z,ab,ac,ad)=>(.br (.bnd (k0.h _) fun _=>(.br (.bnd (k0.h _) fun _=>(k1.h _)) (k1.h _))) .some)
theorem l1_b ( k m1:Nat):∀ v:T1,run (cs m1) (loopN cs m1) b13 (kLoop cs m1 b13 (K13 k)) (s1 v) = d1 (g1.f m1) (l2 k m1) v:=fun (a,b,e,j,l,m,o,s,t,u,w,x,y,z,B,C,D,G,H,I,J,K,P,N,O,T,S,Q,M,V,X,W,U,aa,Z,ab,ac,ad)=>by kernel_rfl
theorem D1_of (v:T1) {r:R} (h:d1 g1.F D2 v = some r):D1 v = some r:=loop_of 1 (fun L n hn=>by show l1 (L 0) (L 1) v = _; rw [hn]; exact (held_eq _).trans ((loopN_succ _ _ _ _ _).trans (l1_b (L 0) n v))) (d1_cn (lp g1.f 1) (.mk fun v=>(D2_cn v).re [0,1]) v) h
def d2 (p0:Y3):Y2:=fun (a,b,e,j,l,m,o,s,t,u,w,x,y,z,B,C,D,G,H,I,J,K,P,N,O,T,S,Q,M,V,X,W,U,aa,Z,ab,ac,ad,ae) =>
br (decide (ae.length + [a].length ≤ 140737488355328 / 8)) (p0 (b,e,j,l,m,o,s,t,u,w,x,y,z,B,C,D,G,H,I,J,K,P,N,O,T,S,Q,M,V,X,W,U,aa,Z,ab,ac,ad,ae ++ [a])) none
theorem d2_cn (k0:Pr E T3 R):∀ v:T2,Cn E (d2 k0.p v) fun i=>d2 (k0.q i) v:=fun (a,b,e,j,l,m,o,s,t,u,w,x,y,z,B,C,D,G,H,I,J,K,P,N,O,T,S,Q,M,V,X,W,U,aa,Z,ab,ac,ad,ae)=>(.br (k0.h _) .none)
theorem l2_b ( k m1:Nat):∀ v:T2,run (cs m1) (loopN cs m1) c1000017 (J1000017 k m1) (s2 v) = d2 (l3 k m1) v:=fun (a,b,e,j,l,m,o,s,t,u,w,x,y,z,B,C,D,G,H,I,J,K,P,N,O,T,S,Q,M,V,X,W,U,aa,Z,ab,ac,ad,ae)=>by kernel_rfl
theorem D2_of (v:T2) {r:R} (h:d2 D3 v = some r):D2 v = some r:=join_of (fun L=>(held_eq _).trans (l2_b (L 0) (L 1) v)) (d2_cn (.mk fun v=>(D3_cn v).re [0,1]) v) h
def d3 (p0:Y1):Y3:=fun (a,b,e,j,l,m,o,s,t,u,w,x,y,z,B,C,D,G,H,I,J,K,P,N,O,T,S,Q,M,V,X,W,U,aa,Z,ab,ac,ad) =>
p0 (a,wrap .i64 (b + 1),e,j,l,m,o,s,t,u,w,x,y,z,B,C,D,G,H,I,J,K,P,N,O,T,S,Q,M,V,X,W,U,aa,Z,ab,ac,ad)
theorem d3_cn (k0:Pr E T1 R):∀ v:T3,Cn E (d3 k0.p v) fun i=>d3 (k0.q i) v:=fun (a,b,e,j,l,m,o,s,t,u,w,x,y,z,B,C,D,G,H,I,J,K,P,N,O,T,S,Q,M,V,X,W,U,aa,Z,ab,ac,ad)=>(k0.h _)
theorem l3_b ( k m1:Nat):∀ v:T3,run (cs m1) (loopN cs m1) c1000018 (J1000018 k m1) (s3 v) = d3 (l1 k m1) v:=fun (a,b,e,j,l,m,o,s,t,u,w,x,y,z,B,C,D,G,H,I,J,K,P,N,O,T,S,Q,M,V,X,W,U,aa,Z,ab,ac,ad)=>by kernel_rfl
theorem D3_of (v:T3) {r:R} (h:d3 D1 v = some r):D3 v = some r:=join_of (fun L=>(held_eq _).trans (l3_b (L 0) (L 1) v)) (d3_cn (.mk fun v=>(D1_cn v).re [0,1]) v) h
noncomputable def f (k:Nat):Y:=fun v=>held (runFn cs k Tryz.f15 (sh.args v) (sh.slots v) dec)
noncomputable def F:Y:=lm f
noncomputable def d (p0:g2.Y) (p1:g1.Y) (p2:g3.Y) (p3:Y0):Y:=fun (a,b,e) =>
bnd (p0 (1,a,b,e)) fun r=>bnd (p0 (60,1800,r.2.1,r.2.2)) fun r_1=>bnd (p0 (-1000,1000,r_1.2.1,r_1.2.2)) fun r_2=>bnd (p0 (-16,16,r_2.2.1,r_2.2.2)) fun r_3=>bnd (p1 (64,r_3.2.1,r_3.2.2)) fun r_4=>bnd (p0 (-1000,1000,r_4.2.1,r_4.2.2)) fun r_5=>bnd (p1 (1073741824,r_5.2.1,r_5.2.2)) fun r_6=>bnd (p1 (4,r_6.2.1,r_6.2.2)) fun r_7=>br (decide (0 ≤ r_7.1 ∧ r_7.1 < (↑[(99429,1994),(50,1),(1,1),(100,1)].length:Int))) (bnd (p2 (r_7.2.1,r_7.2.2)) fun r_8=>bnd (p2 (r_8.2.2.2.1,r_8.2.2.2.2)) fun r_9=>bnd (p1 (3,r_9.2.2.2.1,r_9.2.2.2.2)) fun r_10=>bnd (p1 (4,r_10.2.1,r_10.2.2)) fun r_11=>br (decide (0 < r_11.1)) (br (decide (wrap .i64 (r_3.1 * 67108864) < 0)) (p3 (r_11.2.1,r_11.2.2,0,0,0,0,0,0,0,0,0,0,0,0,0,0,0,0,-536870912,wrap .i64 (r_4.1 * 67108864),r_5.1,r_6.1,(rd ((Ty.int .i64).pair (Ty.int .i64)) [(99429,1994),(50,1),(1,1),(100,1)] r_7.1).1,(rd ((Ty.int .i64).pair (Ty.int .i64)) [(99429,1994),(50,1),(1,1),(100,1)] r_7.1).2,wrap .i64 (r_2.1 * 997000),wrap .i64 (r_1.1 * 1000),r.1,1,0,40,r_9.1,r_9.2.1,r_9.2.2.1,0,[],[])) (p3 (r_11.2.1,r_11.2.2,0,0,0,0,0,0,0,0,0,0,0,0,0,0,0,0,536870912,wrap .i64 (r_4.1 * 67108864),r_5.1,r_6.1,(rd ((Ty.int .i64).pair (Ty.int .i64)) [(99429,1994),(50,1),(1,1),(100,1)] r_7.1).1,(rd ((Ty.int .i64).pair (Ty.int .i64)) [(99429,1994),(50,1),(1,1),(100,1)] r_7.1).2,wrap .i64 (r_2.1 * 997000),wrap .i64 (r_1.1 * 1000),r.1,1,0,-40,r_9.1,r_9.2.1,r_9.2.2.1,0,[],[]))) (p3 (r_11.2.1,r_11.2.2,0,0,0,0,0,0,0,0,0,0,0,0,0,0,0,0,wrap .i64 (r_3.1 * 67108864),wrap .i64 (r_4.1 * 67108864),r_5.1,r_6.1,(rd ((Ty.int .i64).pair (Ty.int .i64)) [(99429,1994),(50,1),(1,1),(100,1)] r_7.1).1,(rd ((Ty.int .i64).pair (Ty.int .i64)) [(99429,1994),(50,1),(1,1),(100,1)] r_7.1).2,wrap .i64 (r_2.1 * 997000),wrap .i64 (r_1.1 * 1000),r.1,r_8.1,r_8.2.1,r_8.2.2.1,r_9.1,r_9.2.1,r_9.2.2.1,wrap .i64 (wrap .i64 (0 - r_10.1) * 134217728),[],[]))) none
theorem d_cn (k0:Pr E g2.A g2.R) (k1:Pr E g1.A g1.R) (k2:Pr E g3.A g3.R) (k3:Pr E T0 R):∀ v:A,Cn E (d k0.p k1.p k2.p k3.p v) fun i=>d (k0.q i) (k1.q i) (k2.q i) (k3.q i) v:=fun (a,b,e)=>(.bnd (k0.h _) fun _=>(.bnd (k0.h _) fun _=>(.bnd (k0.h _) fun _=>(.bnd (k0.h _) fun _=>(.bnd (k1.h _) fun _=>(.bnd (k0.h _) fun _=>(.bnd (k1.h _) fun _=>(.bnd (k1.h _) fun _=>(.br (.bnd (k2.h _) fun _=>(.bnd (k2.h _) fun _=>(.bnd (k1.h _) fun _=>(.bnd (k1.h _) fun _=>(.br (.br (k3.h _) (k3.h _)) (k3.h _)))))) .none)))))))))
theorem f_b (k:Nat):∀ v:A,f k v = d (g2.f k) (g1.f k) (g3.f k) (l0 k) v:=fun (a,b,e)=>(held_eq _).trans (by kernel_rfl)
theorem F_of (v:A) {r:R} (h:d g2.F g1.F g3.F D0 v = some r):F v = some r:=join_of (fun L=>f_b (L 0) v) (d_cn (lp g2.f 0) (lp g1.f 0) (lp g3.f 0) (.mk fun v=>(D0_cn v).re [0]) v) h
noncomputable def spec (k:Nat):List AV→List Slot→Option Ans:=specS sh os (f k)
theorem spec_ok (k:Nat):SpecOk Tryz.prog 15 (spec k):=specS_ok cs_ok Tryz.func15 rfl rfl (fun _ _=>held_eq _) k
end g4
noncomputable def tg4:=tg3.cons 15 g4.spec g4.spec_ok
namespace g5 -- spymake_Stream_Axis
abbrev R:Type:=Int × Int × Int × Int × List Int × Int
abbrev A:Type:=List Int × Int
abbrev Y:=A→Option R
def lv:List (Nat × List Nat):=[(2000000,[2]),(1000006,[0,2,3,4]),(1000009,[2,3,4,5,6])]
noncomputable def cs:Nat→Ctx:=ctxOf tis modes tg4.1 lv
theorem cs_ok (n:Nat):CtxOk Tryz.prog (cs n):=ctxOf_ok rfl tis_ok tg4.2 n
def sh:AS:=⟨[(.c (.ptr 128000000 0))],[(.box [.frz (.int .i64),.int .i64])]⟩
def os:OS:=⟨.agg [.int .i64,.int .i64,.int .i64,.int .i64],[(.box [.frz (.int .i64),.int .i64])]⟩
def enc (r:R):Out:=os.enc r
def dec:Out→Option R:=os.dec
noncomputable def b0:Code:=subF [] Tryz.f45
noncomputable def K0 (k:Nat):Kt R:=kTop (cs k) Tryz.f45 dec
noncomputable def c1000006:Code:=sub [1,1,1,1] b0
noncomputable def J1000006 ( k:Nat):Kt R:=kAt (cs k) (loopN cs k) [1,1,1,1] b0 (K0 k)
noncomputable def c1000009:Code:=sub [1,1,1,1,1,1] b0
noncomputable def J1000009 ( k:Nat):Kt R:=kAt (cs k) (loopN cs k) [1,1,1,1,1,1] b0 (K0 k)
abbrev T0:Type:=Int × Int × List Int × Int × Int × Int × Int × Int
abbrev Y0:=T0→Option R
def s0:T0→St:=fun (a,b,e,j,l,m,o,s)=>⟨56,1,[(0,.c (.ptr 128000000 0)),(2,.c (.ptr 64000000 0)),(3,.c (.int .i64 a)),(4,.c (.int .i64 b))],[],[(128000000,.box [.frz (.int .i64) e,.int .i64 j]),(256000000,.gone),(64000000,.box [.int .i64 l,.int .i64 m,.int .i64 o,.int .i64 s])]⟩
noncomputable def l0 ( k:Nat) (v:T0):Option R:=held (run (cs k) (loopN cs k) c1000006 (J1000006 k) (s0 v))
noncomputable def D0 (v:T0):Option R:=lim fun L=>l0 (L 0) v
theorem D0_cn (v:T0):Cn late (D0 v) fun L=>l0 (L 0) v:=of_lim
abbrev T1:Type:=Int × Int × Int × Int × List Int × Int × Int × Int × Int × Int
abbrev Y1:=T1→Option R
def s1:T1→St:=fun (a,b,e,j,l,m,o,s,t,u)=>⟨56,1,[(2,.c (.ptr 64000000 0)),(3,.c (.int .i64 a)),(4,.c (.int .i64 b)),(5,.c (.int .i64 e)),(6,.c (.int .i64 j))],[],[(128000000,.box [.frz (.int .i64) l,.int .i64 m]),(256000000,.gone),(64000000,.box [.int .i64 o,.int .i64 s,.int .i64 t,.int .i64 u])]⟩
noncomputable def l1 ( k:Nat) (v:T1):Option R:=held (run (cs k) (loopN cs k) c1000009 (J1000009 k) (s1 v))
noncomputable def D1 (v:T1):Option R:=lim fun L=>l1 (L 0) v
theorem D1_cn (v:T1):Cn late (D1 v) fun L=>l1 (L 0) v:=of_lim
def d0 (p0:g2.Y) (p1:g1.Y) (p2:Y1):Y0:=fun (a,b,e,j,l,m,o,s) =>
bnd (p0 (0,6,e,j)) fun r=>bnd (p0 (1,6,r.2.1,r.2.2)) fun r_1=>bnd (p1 (4,r_1.2.1,r_1.2.2)) fun r_2=>br (decide (r_2.1 = 0)) (bnd (p1 (1048576,r_2.2.1,r_2.2.2)) fun r_3=>bnd (p1 (1048576,r_3.2.1,r_3.2.2)) fun r_4=>p2 (a,b,wrap .i64 (wrap .i64 (wrap .i64 (0 - r.1) * 1073741824) + r_3.1),wrap .i64 (wrap .i64 (r_1.1 * 1073741824) - r_4.1),r_4.2.1,r_4.2.2,l,m,o,s)) (p2 (a,b,wrap .i64 (wrap .i64 (0 - r.1) * 1073741824),wrap .i64 (r_1.1 * 1073741824),r_2.2.1,r_2.2.2,l,m,o,s))
theorem d0_cn (k0:Pr E g2.A g2.R) (k1:Pr E g1.A g1.R) (k2:Pr E T1 R):∀ v:T0,Cn E (d0 k0.p k1.p k2.p v) fun i=>d0 (k0.q i) (k1.q i) (k2.q i) v:=fun (a,b,e,j,l,m,o,s)=>(.bnd (k0.h _) fun _=>(.bnd (k0.h _) fun _=>(.bnd (k1.h _) fun _=>(.br (.bnd (k1.h _) fun _=>(.bnd (k1.h _) fun _=>(k2.h _))) (k2.h _)))))
theorem l0_b ( k:Nat):∀ v:T0,run (cs k) (loopN cs k) c1000006 (J1000006 k) (s0 v) = d0 (g2.f k) (g1.f k) (l1 k) v:=fun (a,b,e,j,l,m,o,s)=>by kernel_rfl
theorem D0_of (v:T0) {r:R} (h:d0 g2.F g1.F D1 v = some r):D0 v = some r:=join_of (fun L=>(held_eq _).trans (l0_b (L 0) v)) (d0_cn (lp g2.f 0) (lp g1.f 0) (.mk fun v=>(D1_cn v).re [0]) v) h
def d1:Y1:=fun (a,b,e,j,l,m,o,s,t,u) =>
some (e,j,a,b,l,m)
theorem d1_cn:∀ v:T1,Cn E (d1 v) fun i=>d1 v:=fun (a,b,e,j,l,m,o,s,t,u)=>.some
theorem l1_b ( k:Nat):∀ v:T1,run (cs k) (loopN cs k) c1000009 (J1000009 k) (s1 v) = d1 v:=fun (a,b,e,j,l,m,o,s,t,u)=>by kernel_rfl
theorem D1_of (v:T1) {r:R} (h:d1 v = some r):D1 v = some r:=join_of (fun L=>(held_eq _).trans (l1_b (L 0) v)) (d1_cn v) h
noncomputable def f (k:Nat):Y:=fun v=>held (runFn cs k Tryz.f45 (sh.args v) (sh.slots v) dec)
noncomputable def F:Y:=lm f
noncomputable def d (p0:g2.Y) (p1:g1.Y) (p2:Y0):Y:=fun (a,b) =>
bnd (p0 (24,30,a,b)) fun r=>br (decide (0 ≤ r.1)) (bnd (p0 (1,8,r.2.1,r.2.2)) fun r_1=>br (!decide (r_1.1 = 0)) (bnd (p1 (3,r_1.2.1,r_1.2.2)) fun r_2=>br (decide (r_2.1 = 0)) (bnd (p1 (1000,r_2.2.1,r_2.2.2)) fun r_3=>br (decide ((0:Int) ≤ 10)) (bnd (p1 (1000,r_3.2.1,r_3.2.2)) fun r_4=>p2 (wrap .i64 (shl .i64 1 r.1 - wrap .i64 (r_3.1 * min 1 (shr .i64 (wrap .i64 (shl .i64 1 r.1 - 16777216)) 10))),min (wrap .i64 (wrap .i64 ((shl .i64 1 r.1).tdiv r_1.1) + r_4.1)) (wrap .i64 (shl .i64 1 r.1 - wrap .i64 (r_3.1 * min 1 (shr .i64 (wrap .i64 (shl .i64 1 r.1 - 16777216)) 10)))),r_4.2.1,r_4.2.2,0,0,0,0)) none) (p2 (shl .i64 1 r.1,wrap .i64 ((shl .i64 1 r.1).tdiv r_1.1),r_2.2.1,r_2.2.2,0,0,0,0))) none) none
theorem d_cn (k0:Pr E g2.A g2.R) (k1:Pr E g1.A g1.R) (k2:Pr E T0 R):∀ v:A,Cn E (d k0.p k1.p k2.p v) fun i=>d (k0.q i) (k1.q i) (k2.q i) v:=fun (a,b)=>(.bnd (k0.h _) fun _=>(.br (.bnd (k0.h _) fun _=>(.br (.bnd (k1.h _) fun _=>(.br (.bnd (k1.h _) fun _=>(.br (.bnd (k1.h _) fun _=>(k2.h _)) .none)) (k2.h _))) .none)) .none))
theorem f_b (k:Nat):∀ v:A,f k v = d (g2.f k) (g1.f k) (l0 k) v:=fun (a,b)=>(held_eq _).trans (by kernel_rfl)
theorem F_of (v:A) {r:R} (h:d g2.F g1.F D0 v = some r):F v = some r:=join_of (fun L=>f_b (L 0) v) (d_cn (lp g2.f 0) (lp g1.f 0) (.mk fun v=>(D0_cn v).re [0]) v) h
noncomputable def spec (k:Nat):List AV→List Slot→Option Ans:=specS sh os (f k)
theorem spec_ok (k:Nat):SpecOk Tryz.prog 45 (spec k):=specS_ok cs_ok Tryz.func45 rfl rfl (fun _ _=>held_eq _) k
end g5
noncomputable def tg5:=tg4.cons 45 g5.spec g5.spec_ok
namespace g6 -- spymake_Stream_Inside
abbrev R:Type:=Int × List Int × Int
abbrev A:Type:=Int × Int × Int × Int × List Int × Int
abbrev Y:=A→Option R
def lv:List (Nat × List Nat):=[(2000000,[4])]
noncomputable def cs:Nat→Ctx:=ctxOf tis modes tg5.1 lv
theorem cs_ok (n:Nat):CtxOk Tryz.prog (cs n):=ctxOf_ok rfl tis_ok tg5.2 n
def sh:AS:=⟨[.c (.ptr 128000000 0),.agg [.int .i64,.int .i64,.int .i64,.int .i64]],[(.box [.frz (.int .i64),.int .i64])]⟩
def os:OS:=⟨.c (.int .i64),[(.box [.frz (.int .i64),.int .i64])]⟩
def enc (r:R):Out:=os.enc r
def dec:Out→Option R:=os.dec
noncomputable def b0:Code:=subF [] Tryz.f46
noncomputable def K0 (k:Nat):Kt R:=kTop (cs k) Tryz.f46 dec
noncomputable def f (k:Nat):Y:=fun v=>held (runFn cs k Tryz.f46 (sh.args v) (sh.slots v) dec)
noncomputable def F:Y:=lm f
def d (p0:g1.Y):Y:=fun (a,b,e,j,l,m) =>
bnd (p0 (6,l,m)) fun r=>br (decide (r.1 = 0)) (some (a,r.2.1,r.2.2)) (br (decide (r.1 = 1)) (some (b,r.2.1,r.2.2)) (br (!decide (1000 = 0)) (bnd (p0 (1000,r.2.1,r.2.2)) fun r=>bnd (p0 (wrap .i64 (wrap .i64 ((wrap .i64 (b - a)).tdiv 1000) + 1),r.2.1,r.2.2)) fun r_1=>some (wrap .i64 (wrap .i64 (a + wrap .i64 (wrap .i64 ((wrap .i64 (b - a)).tdiv 1000) * r.1)) + r_1.1),r_1.2.1,r_1.2.2)) none))
theorem d_cn (k0:Pr E g1.A g1.R):∀ v:A,Cn E (d k0.p v) fun i=>d (k0.q i) v:=fun (a,b,e,j,l,m)=>(.bnd (k0.h _) fun _=>(.br .some (.br .some (.br (.bnd (k0.h _) fun _=>(.bnd (k0.h _) fun _=>.some)) .none))))
theorem f_b (k:Nat):∀ v:A,f k v = d (g1.f k) v:=fun (a,b,e,j,l,m)=>(held_eq _).trans (by kernel_rfl)
theorem F_of (v:A) {r:R} (h:d g1.F v = some r):F v = some r:=join_of (fun L=>f_b (L 0) v) (d_cn (lp g1.f 0) v) h
noncomputable def spec (k:Nat):List AV→List Slot→Option Ans:=specS sh os (f k)
theorem spec_ok (k:Nat):SpecOk Tryz.prog 46 (spec k):=specS_ok cs_ok Tryz.func46 rfl rfl (fun _ _=>held_eq _) k
end g6
noncomputable def tg6:=tg5.cons 46 g6.spec g6.spec_ok
namespace g7 -- spymake_Stream_Mount
abbrev R:Type:=Int × Int × Int × Int × Int × Int × Int × Int × Int × Int × List Int × Int
abbrev A:Type:=List Int × Int
abbrev Y:=A→Option R
def lv:List (Nat × List Nat):=[(2000000,[2]),(1000004,[0,2,3]),(1000006,[0,2,3])]
noncomputable def cs:Nat→Ctx:=ctxOf tis modes tg6.1 lv
theorem cs_ok (n:Nat):CtxOk Tryz.prog (cs n):=ctxOf_ok rfl tis_ok tg6.2 n
def sh:AS:=⟨[(.c (.ptr 128000000 0))],[(.box [.frz (.int .i64),.int .i64])]⟩
def os:OS:=⟨.agg [.int .i64,.int .i64,.int .i64,.int .i64,.int .i64,.int .i64,.int .i64,.int .i64,.int .i64,.int .i64],[(.box [.frz (.int .i64),.int .i64])]⟩
def enc (r:R):Out:=os.enc r
def dec:Out→Option R:=os.dec
noncomputable def b0:Code:=subF [] Tryz.f16
noncomputable def K0 (k:Nat):Kt R:=kTop (cs k) Tryz.f16 dec
noncomputable def c1000004:Code:=sub [1,1,1] b0
noncomputable def J1000004 ( k:Nat):Kt R:=kAt (cs k) (loopN cs k) [1,1,1] b0 (K0 k)
noncomputable def c1000006:Code:=sub [1,1,1,1] b0
noncomputable def J1000006 ( k:Nat):Kt R:=kAt (cs k) (loopN cs k) [1,1,1,1] b0 (K0 k)
abbrev T0:Type:=List Int × Int × Int × Int × Int × Int × Int × Int × Int × Int × Int × Int × Int × Int × Int × Int × Int × Int × Int × Int × Int × Int
abbrev Y0:=T0→Option R
def s0:T0→St:=fun (a,b,e,j,l,m,o,s,t,u,w,x,y,z,B,C,D,G,H,I,J,K)=>⟨34,1,[(0,.c (.ptr 128000000 0)),(2,.c (.ptr 64000000 0)),(3,.c (.ptr 64000001 0))],[],[(128000000,.box [.frz (.int .i64) a,.int .i64 b]),(256000000,.gone),(64000000,.box [.int .i64 e,.int .i64 j,.int .i64 l,.int .i64 m,.int .i64 o,.int .i64 s,.int .i64 t,.int .i64 u,.int .i64 w,.int .i64 x]),(64000001,.box [.int .i64 y,.int .i64 z,.int .i64 B,.int .i64 C,.int .i64 D,.int .i64 G,.int .i64 H,.int .i64 I,.int .i64 J,.int .i64 K])]⟩
noncomputable def l0 ( k:Nat) (v:T0):Option R:=held (run (cs k) (loopN cs k) c1000004 (J1000004 k) (s0 v))
noncomputable def D0 (v:T0):Option R:=lim fun L=>l0 (L 0) v
theorem D0_cn (v:T0):Cn late (D0 v) fun L=>l0 (L 0) v:=of_lim
abbrev T1:Type:=List Int × Int × Int × Int × Int × Int × Int × Int × Int × Int × Int × Int × Int × Int × Int × Int × Int × Int × Int × Int × Int × Int
abbrev Y1:=T1→Option R
def s1:T1→St:=fun (a,b,e,j,l,m,o,s,t,u,w,x,y,z,B,C,D,G,H,I,J,K)=>⟨34,1,[(0,.c (.ptr 128000000 0)),(2,.c (.ptr 64000000 0)),(3,.c (.ptr 64000001 0))],[],[(128000000,.box [.frz (.int .i64) a,.int .i64 b]),(256000000,.gone),(64000000,.box [.int .i64 e,.int .i64 j,.int .i64 l,.int .i64 m,.int .i64 o,.int .i64 s,.int .i64 t,.int .i64 u,.int .i64 w,.int .i64 x]),(64000001,.box [.int .i64 y,.int .i64 z,.int .i64 B,.int .i64 C,.int .i64 D,.int .i64 G,.int .i64 H,.int .i64 I,.int .i64 J,.int .i64 K])]⟩
noncomputable def l1 ( k:Nat) (v:T1):Option R:=held (run (cs k) (loopN cs k) c1000006 (J1000006 k) (s1 v))
noncomputable def D1 (v:T1):Option R:=lim fun L=>l1 (L 0) v
theorem D1_cn (v:T1):Cn late (D1 v) fun L=>l1 (L 0) v:=of_lim
def d0 (p0:g1.Y) (p1:Y1):Y0:=fun (a,b,e,j,l,m,o,s,t,u,w,x,y,z,B,C,D,G,H,I,J,K) =>
bnd (p0 (3,a,b)) fun r=>br (decide (0 < r.1)) (p1 (r.2.1,r.2.2,e,j,l,m,o,s,t,u,w,x,y,z,B,C,-1073741824,1073741824,H,I,J,K)) (p1 (r.2.1,r.2.2,e,j,l,m,o,s,t,u,w,x,y,z,B,C,D,G,H,I,J,K))
theorem d0_cn (k0:Pr E g1.A g1.R) (k1:Pr E T1 R):∀ v:T0,Cn E (d0 k0.p k1.p v) fun i=>d0 (k0.q i) (k1.q i) v:=fun (a,b,e,j,l,m,o,s,t,u,w,x,y,z,B,C,D,G,H,I,J,K)=>(.bnd (k0.h _) fun _=>(.br (k1.h _) (k1.h _)))
theorem l0_b ( k:Nat):∀ v:T0,run (cs k) (loopN cs k) c1000004 (J1000004 k) (s0 v) = d0 (g1.f k) (l1 k) v:=fun (a,b,e,j,l,m,o,s,t,u,w,x,y,z,B,C,D,G,H,I,J,K)=>by kernel_rfl
theorem D0_of (v:T0) {r:R} (h:d0 g1.F D1 v = some r):D0 v = some r:=join_of (fun L=>(held_eq _).trans (l0_b (L 0) v)) (d0_cn (lp g1.f 0) (.mk fun v=>(D1_cn v).re [0]) v) h
def d1 (p0:g6.Y):Y1:=fun (a,b,e,j,l,m,o,s,t,u,w,x,y,z,B,C,D,G,H,I,J,K) =>
bnd (p0 (y,z,B,C,a,b)) fun r=>bnd (p0 (D,G,H,I,r.2.1,r.2.2)) fun r_1=>some (y,z,B,C,D,G,H,I,r.1,r_1.1,r_1.2.1,r_1.2.2)
theorem d1_cn (k0:Pr E g6.A g6.R):∀ v:T1,Cn E (d1 k0.p v) fun i=>d1 (k0.q i) v:=fun (a,b,e,j,l,m,o,s,t,u,w,x,y,z,B,C,D,G,H,I,J,K)=>(.bnd (k0.h _) fun _=>(.bnd (k0.h _) fun _=>.some))
theorem l1_b ( k:Nat):∀ v:T1,run (cs k) (loopN cs k) c1000006 (J1000006 k) (s1 v) = d1 (g6.f k) v:=fun (a,b,e,j,l,m,o,s,t,u,w,x,y,z,B,C,D,G,H,I,J,K)=>by kernel_rfl
theorem D1_of (v:T1) {r:R} (h:d1 g6.F v = some r):D1 v = some r:=join_of (fun L=>(held_eq _).trans (l1_b (L 0) v)) (d1_cn (lp g6.f 0) v) h
noncomputable def f (k:Nat):Y:=fun v=>held (runFn cs k Tryz.f16 (sh.args v) (sh.slots v) dec)
noncomputable def F:Y:=lm f
def d (p0:g5.Y) (p1:g1.Y) (p2:Y0):Y:=fun (a,b) =>
bnd (p0 (a,b)) fun r=>bnd (p0 (r.2.2.2.2.1,r.2.2.2.2.2)) fun r_1=>bnd (p1 (3,r_1.2.2.2.2.1,r_1.2.2.2.2.2)) fun r_2=>br (decide (0 < r_2.1)) (p2 (r_2.2.1,r_2.2.2,0,0,0,0,0,0,0,0,0,0,-6442450944,6442450944,r.2.2.1,r.2.2.2.1,r_1.1,r_1.2.1,r_1.2.2.1,r_1.2.2.2.1,0,0)) (p2 (r_2.2.1,r_2.2.2,0,0,0,0,0,0,0,0,0,0,r.1,r.2.1,r.2.2.1,r.2.2.2.1,r_1.1,r_1.2.1,r_1.2.2.1,r_1.2.2.2.1,0,0))
theorem d_cn (k0:Pr E g5.A g5.R) (k1:Pr E g1.A g1.R) (k2:Pr E T0 R):∀ v:A,Cn E (d k0.p k1.p k2.p v) fun i=>d (k0.q i) (k1.q i) (k2.q i) v:=fun (a,b)=>(.bnd (k0.h _) fun _=>(.bnd (k0.h _) fun _=>(.bnd (k1.h _) fun _=>(.br (k2.h _) (k2.h _)))))
theorem f_b (k:Nat):∀ v:A,f k v = d (g5.f k) (g1.f k) (l0 k) v:=fun (a,b)=>(held_eq _).trans (by kernel_rfl)
theorem F_of (v:A) {r:R} (h:d g5.F g1.F D0 v = some r):F v = some r:=join_of (fun L=>f_b (L 0) v) (d_cn (lp g5.f 0) (lp g1.f 0) (.mk fun v=>(D0_cn v).re [0]) v) h
noncomputable def spec (k:Nat):List AV→List Slot→Option Ans:=specS sh os (f k)
theorem spec_ok (k:Nat):SpecOk Tryz.prog 16 (spec k):=specS_ok cs_ok Tryz.func16 rfl rfl (fun _ _=>held_eq _) k
end g7
noncomputable def tg7:=tg6.cons 16 g7.spec g7.spec_ok
namespace g8 -- spymake_Stream_Name
abbrev R:Type:=ByteArray × List Int × Int
abbrev A:Type:=List Int × Int
abbrev Y:=A→Option R
def lv:List (Nat × List Nat):=[(2000000,[2]),(3,[0,3,10,11])]
noncomputable def cs:Nat→Ctx:=ctxOf tis modes tg7.1 lv
theorem cs_ok (n:Nat):CtxOk Tryz.prog (cs n):=ctxOf_ok rfl tis_ok tg7.2 n
def sh:AS:=⟨[(.c (.ptr 128000000 0))],[(.box [.frz (.int .i64),.int .i64])]⟩
def os:OS:=⟨.c .str,[(.box [.frz (.int .i64),.int .i64])]⟩
def enc (r:R):Out:=os.enc r
def dec:Out→Option R:=os.dec
noncomputable def b0:Code:=subF [] Tryz.f47
noncomputable def K0 (k:Nat):Kt R:=kTop (cs k) Tryz.f47 dec
noncomputable def b3:Code:=sub [1,1,0,1,0,0] b0
noncomputable def K3 ( k:Nat):Kt R:=kAt (cs k) (loopN cs k) [1,1,0,1,0] b0 (K0 k)
abbrev T0:Type:=Int × Int × List Int × Int × List Int
abbrev Y0:=T0→Option R
def s0:T0→St:=fun (a,b,e,j,l)=>⟨22,1,[(0,.c (.ptr 128000000 0)),(3,.c (.sl 64000000)),(10,.c (.int .i64 a)),(11,.c (.int .i64 b))],[],[(128000000,.box [.frz (.int .i64) e,.int .i64 j]),(256000000,.gone),(64000000,.row (.int .u8) l)]⟩
noncomputable def l0 ( k n:Nat) (v:T0):Option R:=held (loopN cs n b3 (K3 k) (s0 v))
noncomputable def D0 (v:T0):Option R:=lim fun L=>l0 (L 0) (L 1) v
theorem D0_cn (v:T0):Cn late (D0 v) fun L=>l0 (L 0) (L 1) v:=of_lim
def d0 (p0:g1.Y) (p1:Y0):Y0:=fun (a,b,e,j,l) =>
br (decide (b < a)) (bnd (p0 (6,e,j)) fun r=>br (decide (0 ≤ r.1 ∧ r.1 < (↑bs2.size:Int))) (br (decide (l.length + [(↑(bs2.data.getD r.1.toNat 0).toNat:Int)].length ≤ 140737488355328 / 1)) (p1 (a,wrap .i64 (b + 1),r.2.1,r.2.2,l ++ [(↑(bs2.data.getD r.1.toNat 0).toNat:Int)])) none) none) (some (bytesStr l,e,j))
theorem d0_cn (k0:Pr E g1.A g1.R) (k1:Pr E T0 R):∀ v:T0,Cn E (d0 k0.p k1.p v) fun i=>d0 (k0.q i) (k1.q i) v:=fun (a,b,e,j,l)=>(.br (.bnd (k0.h _) fun _=>(.br (.br (k1.h _) .none) .none)) .some)
theorem l0_b ( k m1:Nat):∀ v:T0,run (cs m1) (loopN cs m1) b3 (kLoop cs m1 b3 (K3 k)) (s0 v) = d0 (g1.f m1) (l0 k m1) v:=fun (a,b,e,j,l)=>by kernel_rfl
theorem D0_of (v:T0) {r:R} (h:d0 g1.F D0 v = some r):D0 v = some r:=loop_of 1 (fun L n hn=>by show l0 (L 0) (L 1) v = _; rw [hn]; exact (held_eq _).trans ((loopN_succ _ _ _ _ _).trans (l0_b (L 0) n v))) (d0_cn (lp g1.f 1) (.mk fun v=>(D0_cn v).re [0,1]) v) h
noncomputable def f (k:Nat):Y:=fun v=>held (runFn cs k Tryz.f47 (sh.args v) (sh.slots v) dec)
noncomputable def F:Y:=lm f
def d (p0:g1.Y) (p1:Y0):Y:=fun (a,b) =>
bnd (p0 (6,a,b)) fun r=>bnd (p0 (4,r.2.1,r.2.2)) fun r_1=>p1 (r_1.1,0,r_1.2.1,r_1.2.2,[wrap .u8 (wrap .i64 (97 + r.1))])
theorem d_cn (k0:Pr E g1.A g1.R) (k1:Pr E T0 R):∀ v:A,Cn E (d k0.p k1.p v) fun i=>d (k0.q i) (k1.q i) v:=fun (a,b)=>(.bnd (k0.h _) fun _=>(.bnd (k0.h _) fun _=>(k1.h _)))
theorem f_b (k:Nat):∀ v:A,f k v = d (g1.f k) (l0 k k) v:=fun (a,b)=>(held_eq _).trans (by kernel_rfl)
theorem F_of (v:A) {r:R} (h:d g1.F D0 v = some r):F v = some r:=join_of (fun L=>f_b (L 0) v) (d_cn (lp g1.f 0) (.mk fun v=>(D0_cn v).re [0,0]) v) h
noncomputable def spec (k:Nat):List AV→List Slot→Option Ans:=specS sh os (f k)
theorem spec_ok (k:Nat):SpecOk Tryz.prog 47 (spec k):=specS_ok cs_ok Tryz.func47 rfl rfl (fun _ _=>held_eq _) k
end g8
noncomputable def tg8:=tg7.cons 47 g8.spec g8.spec_ok
namespace g9 -- spymake_Stream_Request
abbrev R:Type:=Int × Int × Int × Int × Int × Int × Int × Int × Int × Int × Int × Int × Int × List Int × Int
abbrev A:Type:=Int × Int × Int × Int × Int × Int × Int × Int × Int × Int × Int × Int × Int × Int × Int × Int × Int × Int × List Int × Int
abbrev Y:=A→Option R
def lv:List (Nat × List Nat):=[(2000000,[8]),(1000006,[0,8,9]),(1000007,[0,8,9]),(1000010,[0,8,9]),(1000012,[0,8,9]),(1000014,[0,8,9]),(1000016,[8,9])]
noncomputable def cs:Nat→Ctx:=ctxOf tis modes tg8.1 lv
theorem cs_ok (n:Nat):CtxOk Tryz.prog (cs n):=ctxOf_ok rfl tis_ok tg8.2 n
def sh:AS:=⟨[.c (.ptr 128000000 0),.agg [.int .i64,.int .i64,.int .i64,.int .i64,.int .i64,.int .i64,.int .i64,.int .i64,.int .i64,.int .i64,.int .i64,.int .i64,.int .i64,.int .i64,.int .i64,.int .i64,.sl 256000000],.c (.int .i64),.c (.int .i64)],[(.box [.frz (.int .i64),.int .i64])]⟩
def os:OS:=⟨.agg [.int .i64,.int .i64,.int .i64,.int .i64,.int .i64,.int .i64,.int .i64,.int .i64,.int .i64,.int .i64,.int .i64,.int .i64,.int .i64],[(.box [.frz (.int .i64),.int .i64])]⟩
def enc (r:R):Out:=os.enc r
def dec:Out→Option R:=os.dec
noncomputable def b0:Code:=subF [] Tryz.f48
noncomputable def K0 (k:Nat):Kt R:=kTop (cs k) Tryz.f48 dec
noncomputable def c1000007:Code:=sub [1,1,1] b0
noncomputable def J1000007 ( k:Nat):Kt R:=kAt (cs k) (loopN cs k) [1,1,1] b0 (K0 k)
noncomputable def c1000006:Code:=sub [1,1,0,1,0,1,1] b0
noncomputable def J1000006 ( k:Nat):Kt R:=kAt (cs k) (loopN cs k) [1,1,0,1,0,1,1] b0 (K0 k)
noncomputable def c1000010:Code:=sub [1,1,1,1] b0
noncomputable def J1000010 ( k:Nat):Kt R:=kAt (cs k) (loopN cs k) [1,1,1,1] b0 (K0 k)
noncomputable def c1000012:Code:=sub [1,1,1,1,1] b0
noncomputable def J1000012 ( k:Nat):Kt R:=kAt (cs k) (loopN cs k) [1,1,1,1,1] b0 (K0 k)
noncomputable def c1000014:Code:=sub [1,1,1,1,1,1] b0
noncomputable def J1000014 ( k:Nat):Kt R:=kAt (cs k) (loopN cs k) [1,1,1,1,1,1] b0 (K0 k)
noncomputable def c1000016:Code:=sub [1,1,1,1,1,1,1] b0
noncomputable def J1000016 ( k:Nat):Kt R:=kAt (cs k) (loopN cs k) [1,1,1,1,1,1,1] b0 (K0 k)
abbrev T0:Type:=List Int × Int × Int × Int × Int × Int × Int × Int × Int × Int × Int × Int × Int × Int × Int × Int × Int × Int × Int × Int × Int × Int × Int × Int × Int × Int × Int × Int
abbrev Y0:=T0→Option R
noncomputable def s0:T0→St:=fun (a,b,e,j,l,m,o,s,t,u,w,x,y,z,B,C,D,G,H,I,J,K,P,N,O,T,S,Q)=>⟨76,1,[(0,.c (.ptr 128000000 0)),(8,.c (.ptr 64000000 0)),(9,.c (.ptr 64000001 0))],[],[(128000000,.box [.frz (.int .i64) a,.int .i64 b]),(256000000,.gone),(64000000,.box [.int .i64 e,.int .i64 j,.int .i64 l,.int .i64 m,.int .i64 o,.int .i64 s,.int .i64 t,.int .i64 u,.int .i64 w,.int .i64 x,.int .i64 y,.int .i64 z,.int .i64 B]),(64000001,.box [.int .i64 C,.int .i64 D,.int .i64 G,.int .i64 H,.int .i64 I,.int .i64 J,.int .i64 K,.int .i64 P,.int .i64 N,.int .i64 O,.int .i64 T,.int .i64 S,.int .i64 Q])]⟩
noncomputable def l0 ( k:Nat) (v:T0):Option R:=held (run (cs k) (loopN cs k) c1000006 (J1000006 k) (s0 v))
noncomputable def D0 (v:T0):Option R:=lim fun L=>l0 (L 0) v
theorem D0_cn (v:T0):Cn late (D0 v) fun L=>l0 (L 0) v:=of_lim
abbrev T1:Type:=List Int × Int × Int × Int × Int × Int × Int × Int × Int × Int × Int × Int × Int × Int × Int × Int × Int × Int × Int × Int × Int × Int × Int × Int × Int × Int × Int × Int
abbrev Y1:=T1→Option R
noncomputable def s1:T1→St:=fun (a,b,e,j,l,m,o,s,t,u,w,x,y,z,B,C,D,G,H,I,J,K,P,N,O,T,S,Q)=>⟨76,1,[(0,.c (.ptr 128000000 0)),(8,.c (.ptr 64000000 0)),(9,.c (.ptr 64000001 0))],[],[(128000000,.box [.frz (.int .i64) a,.int .i64 b]),(256000000,.gone),(64000000,.box [.int .i64 e,.int .i64 j,.int .i64 l,.int .i64 m,.int .i64 o,.int .i64 s,.int .i64 t,.int .i64 u,.int .i64 w,.int .i64 x,.int .i64 y,.int .i64 z,.int .i64 B]),(64000001,.box [.int .i64 C,.int .i64 D,.int .i64 G,.int .i64 H,.int .i64 I,.int .i64 J,.int .i64 K,.int .i64 P,.int .i64 N,.int .i64 O,.int .i64 T,.int .i64 S,.int .i64 Q])]⟩
noncomputable def l1 ( k:Nat) (v:T1):Option R:=held (run (cs k) (loopN cs k) c1000007 (J1000007 k) (s1 v))
noncomputable def D1 (v:T1):Option R:=lim fun L=>l1 (L 0) v
theorem D1_cn (v:T1):Cn late (D1 v) fun L=>l1 (L 0) v:=of_lim
abbrev T2:Type:=List Int × Int × Int × Int × Int × Int × Int × Int × Int × Int × Int × Int × Int × Int × Int × Int × Int × Int × Int × Int × Int × Int × Int × Int × Int × Int × Int × Int
abbrev Y2:=T2→Option R
noncomputable def s2:T2→St:=fun (a,b,e,j,l,m,o,s,t,u,w,x,y,z,B,C,D,G,H,I,J,K,P,N,O,T,S,Q)=>⟨76,1,[(0,.c (.ptr 128000000 0)),(8,.c (.ptr 64000000 0)),(9,.c (.ptr 64000001 0))],[],[(128000000,.box [.frz (.int .i64) a,.int .i64 b]),(256000000,.gone),(64000000,.box [.int .i64 e,.int .i64 j,.int .i64 l,.int .i64 m,.int .i64 o,.int .i64 s,.int .i64 t,.int .i64 u,.int .i64 w,.int .i64 x,.int .i64 y,.int .i64 z,.int .i64 B]),(64000001,.box [.int .i64 C,.int .i64 D,.int .i64 G,.int .i64 H,.int .i64 I,.int .i64 J,.int .i64 K,.int .i64 P,.int .i64 N,.int .i64 O,.int .i64 T,.int .i64 S,.int .i64 Q])]⟩
noncomputable def l2 ( k:Nat) (v:T2):Option R:=held (run (cs k) (loopN cs k) c1000010 (J1000010 k) (s2 v))
noncomputable def D2 (v:T2):Option R:=lim fun L=>l2 (L 0) v
theorem D2_cn (v:T2):Cn late (D2 v) fun L=>l2 (L 0) v:=of_lim
abbrev T3:Type:=List Int × Int × Int × Int × Int × Int × Int × Int × Int × Int × Int × Int × Int × Int × Int × Int × Int × Int × Int × Int × Int × Int × Int × Int × Int × Int × Int × Int
abbrev Y3:=T3→Option R
noncomputable def s3:T3→St:=fun (a,b,e,j,l,m,o,s,t,u,w,x,y,z,B,C,D,G,H,I,J,K,P,N,O,T,S,Q)=>⟨76,1,[(0,.c (.ptr 128000000 0)),(8,.c (.ptr 64000000 0)),(9,.c (.ptr 64000001 0))],[],[(128000000,.box [.frz (.int .i64) a,.int .i64 b]),(256000000,.gone),(64000000,.box [.int .i64 e,.int .i64 j,.int .i64 l,.int .i64 m,.int .i64 o,.int .i64 s,.int .i64 t,.int .i64 u,.int .i64 w,.int .i64 x,.int .i64 y,.int .i64 z,.int .i64 B]),(64000001,.box [.int .i64 C,.int .i64 D,.int .i64 G,.int .i64 H,.int .i64 I,.int .i64 J,.int .i64 K,.int .i64 P,.int .i64 N,.int .i64 O,.int .i64 T,.int .i64 S,.int .i64 Q])]⟩
noncomputable def l3 ( k:Nat) (v:T3):Option R:=held (run (cs k) (loopN cs k) c1000012 (J1000012 k) (s3 v))
noncomputable def D3 (v:T3):Option R:=lim fun L=>l3 (L 0) v
theorem D3_cn (v:T3):Cn late (D3 v) fun L=>l3 (L 0) v:=of_lim
abbrev T4:Type:=List Int × Int × Int × Int × Int × Int × Int × Int × Int × Int × Int × Int × Int × Int × Int × Int × Int × Int × Int × Int × Int × Int × Int × Int × Int × Int × Int × Int
abbrev Y4:=T4→Option R
noncomputable def s4:T4→St:=fun (a,b,e,j,l,m,o,s,t,u,w,x,y,z,B,C,D,G,H,I,J,K,P,N,O,T,S,Q)=>⟨76,1,[(0,.c (.ptr 128000000 0)),(8,.c (.ptr 64000000 0)),(9,.c (.ptr 64000001 0))],[],[(128000000,.box [.frz (.int .i64) a,.int .i64 b]),(256000000,.gone),(64000000,.box [.int .i64 e,.int .i64 j,.int .i64 l,.int .i64 m,.int .i64 o,.int .i64 s,.int .i64 t,.int .i64 u,.int .i64 w,.int .i64 x,.int .i64 y,.int .i64 z,.int .i64 B]),(64000001,.box [.int .i64 C,.int .i64 D,.int .i64 G,.int .i64 H,.int .i64 I,.int .i64 J,.int .i64 K,.int .i64 P,.int .i64 N,.int .i64 O,.int .i64 T,.int .i64 S,.int .i64 Q])]⟩
noncomputable def l4 ( k:Nat) (v:T4):Option R:=held (run (cs k) (loopN cs k) c1000014 (J1000014 k) (s4 v))
noncomputable def D4 (v:T4):Option R:=lim fun L=>l4 (L 0) v
theorem D4_cn (v:T4):Cn late (D4 v) fun L=>l4 (L 0) v:=of_lim
abbrev T5:Type:=List Int × Int × Int × Int × Int × Int × Int × Int × Int × Int × Int × Int × Int × Int × Int × Int × Int × Int × Int × Int × Int × Int × Int × Int × Int × Int × Int × Int
abbrev Y5:=T5→Option R
def s5:T5→St:=fun (a,b,e,j,l,m,o,s,t,u,w,x,y,z,B,C,D,G,H,I,J,K,P,N,O,T,S,Q)=>⟨76,1,[(8,.c (.ptr 64000000 0)),(9,.c (.ptr 64000001 0))],[],[(128000000,.box [.frz (.int .i64) a,.int .i64 b]),(256000000,.gone),(64000000,.box [.int .i64 e,.int .i64 j,.int .i64 l,.int .i64 m,.int .i64 o,.int .i64 s,.int .i64 t,.int .i64 u,.int .i64 w,.int .i64 x,.int .i64 y,.int .i64 z,.int .i64 B]),(64000001,.box [.int .i64 C,.int .i64 D,.int .i64 G,.int .i64 H,.int .i64 I,.int .i64 J,.int .i64 K,.int .i64 P,.int .i64 N,.int .i64 O,.int .i64 T,.int .i64 S,.int .i64 Q])]⟩
noncomputable def l5 ( k:Nat) (v:T5):Option R:=held (run (cs k) (loopN cs k) c1000016 (J1000016 k) (s5 v))
noncomputable def D5 (v:T5):Option R:=lim fun L=>l5 (L 0) v
theorem D5_cn (v:T5):Cn late (D5 v) fun L=>l5 (L 0) v:=of_lim
def d0 (p0:g2.Y) (p1:Y1):Y0:=fun (a,b,e,j,l,m,o,s,t,u,w,x,y,z,B,C,D,G,H,I,J,K,P,N,O,T,S,Q) =>
bnd (p0 (0,4,a,b)) fun r=>p1 (r.2.1,r.2.2,e,j,l,m,o,s,t,u,w,x,y,z,B,C,D,G,H,I,J,K,P,N,wrap .i64 (r.1 * 134217728),T,S,Q)
theorem d0_cn (k0:Pr E g2.A g2.R) (k1:Pr E T1 R):∀ v:T0,Cn E (d0 k0.p k1.p v) fun i=>d0 (k0.q i) (k1.q i) v:=fun (a,b,e,j,l,m,o,s,t,u,w,x,y,z,B,C,D,G,H,I,J,K,P,N,O,T,S,Q)=>(.bnd (k0.h _) fun _=>(k1.h _))
theorem l0_b ( k:Nat):∀ v:T0,run (cs k) (loopN cs k) c1000006 (J1000006 k) (s0 v) = d0 (g2.f k) (l1 k) v:=fun (a,b,e,j,l,m,o,s,t,u,w,x,y,z,B,C,D,G,H,I,J,K,P,N,O,T,S,Q)=>by kernel_rfl
theorem D0_of (v:T0) {r:R} (h:d0 g2.F D1 v = some r):D0 v = some r:=join_of (fun L=>(held_eq _).trans (l0_b (L 0) v)) (d0_cn (lp g2.f 0) (.mk fun v=>(D1_cn v).re [0]) v) h
def d1 (p0:g2.Y) (p1:g1.Y) (p2:Y2):Y1:=fun (a,b,e,j,l,m,o,s,t,u,w,x,y,z,B,C,D,G,H,I,J,K,P,N,O,T,S,Q) =>
br (decide (1 < K)) (bnd (p0 (1,6,a,b)) fun r=>bnd (p1 (12,r.2.1,r.2.2)) fun r_1=>p2 (r_1.2.1,r_1.2.2,e,j,l,m,o,s,t,u,w,x,y,z,B,C,D,G,H,I,J,K,r.1,min 64 (wrap .i64 (r.1 + r_1.1)),O,T,S,Q)) (p2 (a,b,e,j,l,m,o,s,t,u,w,x,y,z,B,C,D,G,H,I,J,K,P,N,O,T,S,Q))
theorem d1_cn (k0:Pr E g2.A g2.R) (k1:Pr E g1.A g1.R) (k2:Pr E T2 R):∀ v:T1,Cn E (d1 k0.p k1.p k2.p v) fun i=>d1 (k0.q i) (k1.q i) (k2.q i) v:=fun (a,b,e,j,l,m,o,s,t,u,w,x,y,z,B,C,D,G,H,I,J,K,P,N,O,T,S,Q)=>(.br (.bnd (k0.h _) fun _=>(.bnd (k1.h _) fun _=>(k2.h _))) (k2.h _))
theorem l1_b ( k:Nat):∀ v:T1,run (cs k) (loopN cs k) c1000007 (J1000007 k) (s1 v) = d1 (g2.f k) (g1.f k) (l2 k) v:=fun (a,b,e,j,l,m,o,s,t,u,w,x,y,z,B,C,D,G,H,I,J,K,P,N,O,T,S,Q)=>by kernel_rfl
theorem D1_of (v:T1) {r:R} (h:d1 g2.F g1.F D2 v = some r):D1 v = some r:=join_of (fun L=>(held_eq _).trans (l1_b (L 0) v)) (d1_cn (lp g2.f 0) (lp g1.f 0) (.mk fun v=>(D2_cn v).re [0]) v) h
def d2 (p0:g1.Y) (p1:Y3):Y2:=fun (a,b,e,j,l,m,o,s,t,u,w,x,y,z,B,C,D,G,H,I,J,K,P,N,O,T,S,Q) =>
bnd (p0 (3,a,b)) fun r=>br (decide (r.1 = 0)) (bnd (p0 (4,r.2.1,r.2.2)) fun r=>p1 (r.2.1,r.2.2,e,j,l,m,o,s,t,u,w,x,y,z,B,C,D,G,H,I,J,K,P,N,O,T,r.1,Q)) (p1 (r.2.1,r.2.2,e,j,l,m,o,s,t,u,w,x,y,z,B,C,D,G,H,I,J,K,P,N,O,T,S,Q))
theorem d2_cn (k0:Pr E g1.A g1.R) (k1:Pr E T3 R):∀ v:T2,Cn E (d2 k0.p k1.p v) fun i=>d2 (k0.q i) (k1.q i) v:=fun (a,b,e,j,l,m,o,s,t,u,w,x,y,z,B,C,D,G,H,I,J,K,P,N,O,T,S,Q)=>(.bnd (k0.h _) fun _=>(.br (.bnd (k0.h _) fun _=>(k1.h _)) (k1.h _)))
theorem l2_b ( k:Nat):∀ v:T2,run (cs k) (loopN cs k) c1000010 (J1000010 k) (s2 v) = d2 (g1.f k) (l3 k) v:=fun (a,b,e,j,l,m,o,s,t,u,w,x,y,z,B,C,D,G,H,I,J,K,P,N,O,T,S,Q)=>by kernel_rfl
theorem D2_of (v:T2) {r:R} (h:d2 g1.F D3 v = some r):D2 v = some r:=join_of (fun L=>(held_eq _).trans (l2_b (L 0) v)) (d2_cn (lp g1.f 0) (.mk fun v=>(D3_cn v).re [0]) v) h
def d3 (p0:g1.Y) (p1:g2.Y) (p2:Y4):Y3:=fun (a,b,e,j,l,m,o,s,t,u,w,x,y,z,B,C,D,G,H,I,J,K,P,N,O,T,S,Q) =>
bnd (p0 (4,a,b)) fun r=>br (decide (r.1 = 0)) (bnd (p1 (-8,8,r.2.1,r.2.2)) fun r=>p2 (r.2.1,r.2.2,e,j,l,m,o,s,t,u,w,x,y,z,B,C,D,G,H,I,J,K,P,N,O,wrap .i64 (r.1 * 134217728),S,Q)) (p2 (r.2.1,r.2.2,e,j,l,m,o,s,t,u,w,x,y,z,B,C,D,G,H,I,J,K,P,N,O,T,S,Q))
theorem d3_cn (k0:Pr E g1.A g1.R) (k1:Pr E g2.A g2.R) (k2:Pr E T4 R):∀ v:T3,Cn E (d3 k0.p k1.p k2.p v) fun i=>d3 (k0.q i) (k1.q i) (k2.q i) v:=fun (a,b,e,j,l,m,o,s,t,u,w,x,y,z,B,C,D,G,H,I,J,K,P,N,O,T,S,Q)=>(.bnd (k0.h _) fun _=>(.br (.bnd (k1.h _) fun _=>(k2.h _)) (k2.h _)))
theorem l3_b ( k:Nat):∀ v:T3,run (cs k) (loopN cs k) c1000012 (J1000012 k) (s3 v) = d3 (g1.f k) (g2.f k) (l4 k) v:=fun (a,b,e,j,l,m,o,s,t,u,w,x,y,z,B,C,D,G,H,I,J,K,P,N,O,T,S,Q)=>by kernel_rfl
theorem D3_of (v:T3) {r:R} (h:d3 g1.F g2.F D4 v = some r):D3 v = some r:=join_of (fun L=>(held_eq _).trans (l3_b (L 0) v)) (d3_cn (lp g1.f 0) (lp g2.f 0) (.mk fun v=>(D4_cn v).re [0]) v) h
def d4 (p0:g1.Y) (p1:g2.Y) (p2:Y5):Y4:=fun (a,b,e,j,l,m,o,s,t,u,w,x,y,z,B,C,D,G,H,I,J,K,P,N,O,T,S,Q) =>
bnd (p0 (6,a,b)) fun r=>br (decide (r.1 = 0)) (bnd (p1 (-8,8,r.2.1,r.2.2)) fun r=>p2 (r.2.1,r.2.2,e,j,l,m,o,s,t,u,w,x,y,z,B,C,D,G,H,I,J,K,P,N,wrap .i64 (r.1 * 134217728),T,S,Q)) (p2 (r.2.1,r.2.2,e,j,l,m,o,s,t,u,w,x,y,z,B,C,D,G,H,I,J,K,P,N,O,T,S,Q))
theorem d4_cn (k0:Pr E g1.A g1.R) (k1:Pr E g2.A g2.R) (k2:Pr E T5 R):∀ v:T4,Cn E (d4 k0.p k1.p k2.p v) fun i=>d4 (k0.q i) (k1.q i) (k2.q i) v:=fun (a,b,e,j,l,m,o,s,t,u,w,x,y,z,B,C,D,G,H,I,J,K,P,N,O,T,S,Q)=>(.bnd (k0.h _) fun _=>(.br (.bnd (k1.h _) fun _=>(k2.h _)) (k2.h _)))
theorem l4_b ( k:Nat):∀ v:T4,run (cs k) (loopN cs k) c1000014 (J1000014 k) (s4 v) = d4 (g1.f k) (g2.f k) (l5 k) v:=fun (a,b,e,j,l,m,o,s,t,u,w,x,y,z,B,C,D,G,H,I,J,K,P,N,O,T,S,Q)=>by kernel_rfl
theorem D4_of (v:T4) {r:R} (h:d4 g1.F g2.F D5 v = some r):D4 v = some r:=join_of (fun L=>(held_eq _).trans (l4_b (L 0) v)) (d4_cn (lp g1.f 0) (lp g2.f 0) (.mk fun v=>(D5_cn v).re [0]) v) h
def d5:Y5:=fun (a,b,e,j,l,m,o,s,t,u,w,x,y,z,B,C,D,G,H,I,J,K,P,N,O,T,S,Q) =>
some (C,D,G,H,I,J,K,P,N,O,T,S,Q,a,b)
theorem d5_cn:∀ v:T5,Cn E (d5 v) fun i=>d5 v:=fun (a,b,e,j,l,m,o,s,t,u,w,x,y,z,B,C,D,G,H,I,J,K,P,N,O,T,S,Q)=>.some
theorem l5_b ( k:Nat):∀ v:T5,run (cs k) (loopN cs k) c1000016 (J1000016 k) (s5 v) = d5 v:=fun (a,b,e,j,l,m,o,s,t,u,w,x,y,z,B,C,D,G,H,I,J,K,P,N,O,T,S,Q)=>by kernel_rfl
theorem D5_of (v:T5) {r:R} (h:d5 v = some r):D5 v = some r:=join_of (fun L=>(held_eq _).trans (l5_b (L 0) v)) (d5_cn v) h
noncomputable def f (k:Nat):Y:=fun v=>held (runFn cs k Tryz.f48 (sh.args v) (sh.slots v) dec)
noncomputable def F:Y:=lm f
noncomputable def d (p0:g1.Y) (p1:g3.Y) (p2:g2.Y) (p3:Y0) (p4:Y1):Y:=fun (a,b,e,j,l,m,o,s,t,u,w,x,y,z,B,C,D,G,H,I) =>
bnd (p0 (G,H,I)) fun r=>bnd (p1 (r.2.1,r.2.2)) fun r_1=>bnd (p2 (1,3,r_1.2.2.2.1,r_1.2.2.2.2)) fun r_2=>bnd (p2 (1,3,r_2.2.1,r_2.2.2)) fun r_3=>bnd (p2 (1,5,r_3.2.1,r_3.2.2)) fun r_4=>bnd (p0 (2,r_4.2.1,r_4.2.2)) fun r_5=>br (decide (r_5.1 = 0)) (bnd (p2 (-9,9,r_5.2.1,r_5.2.2)) fun r_6=>bnd (p2 (-9,9,r_6.2.1,r_6.2.2)) fun r_7=>br (decide (a < 0)) (p3 (r_7.2.1,r_7.2.2,0,0,0,0,0,0,0,0,0,0,0,0,0,D,r.1,r_6.1,r_7.1,-12,r_2.1,r_3.1,0,0,-1073741824,1073741824,4,r_4.1)) (p3 (r_7.2.1,r_7.2.2,0,0,0,0,0,0,0,0,0,0,0,0,0,D,r.1,r_6.1,r_7.1,12,r_2.1,r_3.1,0,0,-1073741824,1073741824,4,r_4.1))) (p4 (r_5.2.1,r_5.2.2,0,0,0,0,0,0,0,0,0,0,0,0,0,D,r.1,r_1.1,r_1.2.1,r_1.2.2.1,r_2.1,r_3.1,0,0,-1073741824,1073741824,4,r_4.1))
theorem d_cn (k0:Pr E g1.A g1.R) (k1:Pr E g3.A g3.R) (k2:Pr E g2.A g2.R) (k3:Pr E T0 R) (k4:Pr E T1 R):∀ v:A,Cn E (d k0.p k1.p k2.p k3.p k4.p v) fun i=>d (k0.q i) (k1.q i) (k2.q i) (k3.q i) (k4.q i) v:=fun (a,b,e,j,l,m,o,s,t,u,w,x,y,z,B,C,D,G,H,I)=>(.bnd (k0.h _) fun _=>(.bnd (k1.h _) fun _=>(.bnd (k2.h _) fun _=>(.bnd (k2.h _) fun _=>(.bnd (k2.h _) fun _=>(.bnd (k0.h _) fun _=>(.br (.bnd (k2.h _) fun _=>(.bnd (k2.h _) fun _=>(.br (k3.h _) (k3.h _)))) (k4.h _))))))))
theorem f_b (k:Nat):∀ v:A,f k v = d (g1.f k) (g3.f k) (g2.f k) (l0 k) (l1 k) v:=fun (a,b,e,j,l,m,o,s,t,u,w,x,y,z,B,C,D,G,H,I)=>(held_eq _).trans (by kernel_rfl)
theorem F_of (v:A) {r:R} (h:d g1.F g3.F g2.F D0 D1 v = some r):F v = some r:=join_of (fun L=>f_b (L 0) v) (d_cn (lp g1.f 0) (lp g3.f 0) (lp g2.f 0) (.mk fun v=>(D0_cn v).re [0]) (.mk fun v=>(D1_cn v).re [0]) v) h
noncomputable def spec (k:Nat):List AV→List Slot→Option Ans:=specS sh os (f k)
theorem spec_ok (k:Nat):SpecOk Tryz.prog 48 (spec k):=specS_ok cs_ok Tryz.func48 rfl rfl (fun _ _=>held_eq _) k
end g9
noncomputable def tg9:=tg8.cons 48 g9.spec g9.spec_ok
namespace g10 -- spymake_Stream_Programme
abbrev R:Type:=List Int × Int × List (ByteArray × Int) × List (Int × Int × (Int × Int × Int) × Int × Int × Int × Int × Int × Int × Int × Int)
abbrev A:Type:=Int × Int × Int × Int × Int × Int × Int × Int × Int × Int × Int × Int × Int × Int × Int × Int × Int × List Int × Int
abbrev Y:=A→Option R
def lv:List (Nat × List Nat):=[(2000000,[6]),(3,[0,2,4,6,7,11,12]),(9,[0,4,6,7,9,35,36])]
noncomputable def cs:Nat→Ctx:=ctxOf tis modes tg9.1 lv
theorem cs_ok (n:Nat):CtxOk Tryz.prog (cs n):=ctxOf_ok rfl tis_ok tg9.2 n
def sh:AS:=⟨[.c (.ptr 128000000 0),.agg [.int .i64,.int .i64,.int .i64,.int .i64,.int .i64,.int .i64,.int .i64,.int .i64,.int .i64,.int .i64,.int .i64,.int .i64,.int .i64,.int .i64,.int .i64,.int .i64,.sl 256000000],.c (.int .i64)],[(.box [.frz (.int .i64),.int .i64])]⟩
def os:OS:=⟨.agg [.sl 128000001,.sl 128000002],[.box [.frz (.int .i64),.int .i64],.row y19,.row y27]⟩
def enc (r:R):Out:=os.enc r
def dec:Out→Option R:=os.dec
noncomputable def b0:Code:=subF [] Tryz.f17
noncomputable def K0 (k:Nat):Kt R:=kTop (cs k) Tryz.f17 dec
noncomputable def b3:Code:=sub [1,1,0,1,0,0] b0
noncomputable def K3 ( k:Nat):Kt R:=kAt (cs k) (loopN cs k) [1,1,0,1,0] b0 (K0 k)
noncomputable def b9:Code:=sub [1,1,1,1,0,1,0,0] b0
noncomputable def K9 ( k:Nat):Kt R:=kAt (cs k) (loopN cs k) [1,1,1,1,0,1,0] b0 (K0 k)
abbrev T0:Type:=Int × Int × Int × List Int × Int × Int × Int × Int × Int × Int × Int × Int × Int × Int × Int × Int × Int × Int × Int × Int × Int × List (ByteArray × Int) × List (Int × Int × (Int × Int × Int) × Int × Int × Int × Int × Int × Int × Int × Int) × List (ByteArray × Int) × List (Int × Int × (Int × Int × Int) × Int × Int × Int × Int × Int × Int × Int × Int)
abbrev Y0:=T0→Option R
noncomputable def s0:T0→St:=fun (a,b,e,j,l,m,o,s,t,u,w,x,y,z,B,C,D,G,H,I,J,K,P,N,O)=>⟨56,1,[(0,.c (.ptr 128000000 0)),(2,.c (.int .i64 a)),(4,.c (.ptr 64000000 0)),(6,.c (.ptr 64000001 0)),(7,.c (.ptr 64000002 0)),(11,.c (.int .i64 b)),(12,.c (.int .i64 e))],[],[(128000000,.box [.frz (.int .i64) j,.int .i64 l]),(256000000,.gone),(64000000,.box [.int .i64 m,.int .i64 o,.int .i64 s,.int .i64 t,.int .i64 u,.int .i64 w,.int .i64 x,.int .i64 y,.int .i64 z,.int .i64 B,.int .i64 C,.int .i64 D,.int .i64 G,.int .i64 H,.int .i64 I,.int .i64 J,.sl 256000000]),(64000001,.box [.sl 64000003,.sl 64000004]),(64000002,.box [.sl 64000005,.sl 64000006]),(64000003,.row y19 K),(64000004,.row y27 P),(64000005,.row y19 N),(64000006,.row y27 O)]⟩
noncomputable def l0 ( k n:Nat) (v:T0):Option R:=held (loopN cs n b3 (K3 k) (s0 v))
noncomputable def D0 (v:T0):Option R:=lim fun L=>l0 (L 0) (L 1) v
theorem D0_cn (v:T0):Cn late (D0 v) fun L=>l0 (L 0) (L 1) v:=of_lim
abbrev T1:Type:=Int × Int × Int × List Int × Int × Int × Int × Int × Int × Int × Int × Int × Int × Int × Int × Int × Int × Int × Int × Int × Int × List (ByteArray × Int) × List (Int × Int × (Int × Int × Int) × Int × Int × Int × Int × Int × Int × Int × Int) × List (ByteArray × Int) × List (Int × Int × (Int × Int × Int) × Int × Int × Int × Int × Int × Int × Int × Int)
abbrev Y1:=T1→Option R
noncomputable def s1:T1→St:=fun (a,b,e,j,l,m,o,s,t,u,w,x,y,z,B,C,D,G,H,I,J,K,P,N,O)=>⟨56,1,[(0,.c (.ptr 128000000 0)),(4,.c (.ptr 64000000 0)),(6,.c (.ptr 64000001 0)),(7,.c (.ptr 64000002 0)),(9,.c (.int .i64 a)),(35,.c (.int .i64 b)),(36,.c (.int .i64 e))],[],[(128000000,.box [.frz (.int .i64) j,.int .i64 l]),(256000000,.gone),(64000000,.box [.int .i64 m,.int .i64 o,.int .i64 s,.int .i64 t,.int .i64 u,.int .i64 w,.int .i64 x,.int .i64 y,.int .i64 z,.int .i64 B,.int .i64 C,.int .i64 D,.int .i64 G,.int .i64 H,.int .i64 I,.int .i64 J,.sl 256000000]),(64000001,.box [.sl 64000003,.sl 64000004]),(64000002,.box [.sl 64000005,.sl 64000006]),(64000003,.row y19 K),(64000004,.row y27 P),(64000005,.row y19 N),(64000006,.row y27 O)]⟩
noncomputable def l1 ( k n:Nat) (v:T1):Option R:=held (loopN cs n b9 (K9 k) (s1 v))
noncomputable def D1 (v:T1):Option R:=lim fun L=>l1 (L 0) (L 1) v
theorem D1_cn (v:T1):Cn late (D1 v) fun L=>l1 (L 0) (L 1) v:=of_lim
noncomputable def d0 (p0:g8.Y) (p1:g2.Y) (p2:Y0) (p3:g1.Y) (p4:Y1):Y0:=fun (a,b,e,j,l,m,o,s,t,u,w,x,y,z,B,C,D,G,H,I,J,K,P,N,O) =>
br (decide (e < b)) (bnd (p0 (j,l)) fun r=>br (decide (r.1.size + (bytesStr [wrap .u8 (wrap .i64 (48 + e))]).size < 9223372036854775807)) (bnd (p1 (1,5,r.2.1,r.2.2)) fun r_1=>br (decide (N.length + [(r.1 ++ bytesStr [wrap .u8 (wrap .i64 (48 + e))],r_1.1)].length ≤ 140737488355328 / 24)) (p2 (a,b,wrap .i64 (e + 1),r_1.2.1,r_1.2.2,m,o,s,t,u,w,x,y,z,B,C,D,G,H,I,J,K,P,N ++ [(r.1 ++ bytesStr [wrap .u8 (wrap .i64 (48 + e))],r_1.1)],O)) none) none) (bnd (p3 (wrap .i64 (a + 1),j,l)) fun r=>p4 (0,r.1,0,r.2.1,r.2.2,m,o,s,t,u,w,x,y,z,B,C,D,G,H,I,J,K,P,N,O))
theorem d0_cn (k0:Pr E g8.A g8.R) (k1:Pr E g2.A g2.R) (k2:Pr E T0 R) (k3:Pr E g1.A g1.R) (k4:Pr E T1 R):∀ v:T0,Cn E (d0 k0.p k1.p k2.p k3.p k4.p v) fun i=>d0 (k0.q i) (k1.q i) (k2.q i) (k3.q i) (k4.q i) v:=fun (a,b,e,j,l,m,o,s,t,u,w,x,y,z,B,C,D,G,H,I,J,K,P,N,O)=>(.br (.bnd (k0.h _) fun _=>(.br (.bnd (k1.h _) fun _=>(.br (k2.h _) .none)) .none)) (.bnd (k3.h _) fun _=>(k4.h _)))
theorem l0_b ( k m1:Nat):∀ v:T0,run (cs m1) (loopN cs m1) b3 (kLoop cs m1 b3 (K3 k)) (s0 v) = d0 (g8.f m1) (g2.f m1) (l0 k m1) (g1.f k) (l1 k k) v:=fun (a,b,e,j,l,m,o,s,t,u,w,x,y,z,B,C,D,G,H,I,J,K,P,N,O)=>by kernel_rfl
theorem D0_of (v:T0) {r:R} (h:d0 g8.F g2.F D0 g1.F D1 v = some r):D0 v = some r:=loop_of 1 (fun L n hn=>by show l0 (L 0) (L 1) v = _; rw [hn]; exact (held_eq _).trans ((loopN_succ _ _ _ _ _).trans (l0_b (L 0) n v))) (d0_cn (lp g8.f 1) (lp g2.f 1) (.mk fun v=>(D0_cn v).re [0,1]) (lp g1.f 0) (.mk fun v=>(D1_cn v).re [0,0]) v) h
noncomputable def d1 (p0:g2.Y) (p1:g9.Y) (p2:Y1):Y1:=fun (a,b,e,j,l,m,o,s,t,u,w,x,y,z,B,C,D,G,H,I,J,K,P,N,O) =>
br (decide (e < b)) (bnd (p0 (1,4,j,l)) fun r=>bnd (p1 (m,o,s,t,u,w,x,y,z,B,C,D,G,H,I,J,wrap .i64 (a + r.1),(↑N.length:Int),r.2.1,r.2.2)) fun r_1=>br (decide (O.length + [(r_1.1,r_1.2.1,(r_1.2.2.1,r_1.2.2.2.1,r_1.2.2.2.2.1),r_1.2.2.2.2.2.1,r_1.2.2.2.2.2.2.1,r_1.2.2.2.2.2.2.2.1,r_1.2.2.2.2.2.2.2.2.1,r_1.2.2.2.2.2.2.2.2.2.1,r_1.2.2.2.2.2.2.2.2.2.2.1,r_1.2.2.2.2.2.2.2.2.2.2.2.1,r_1.2.2.2.2.2.2.2.2.2.2.2.2.1)].length ≤ 140737488355328 / 104)) (p2 (wrap .i64 (a + r.1),b,wrap .i64 (e + 1),r_1.2.2.2.2.2.2.2.2.2.2.2.2.2.1,r_1.2.2.2.2.2.2.2.2.2.2.2.2.2.2,m,o,s,t,u,w,x,y,z,B,C,D,G,H,I,J,K,P,N,O ++ [(r_1.1,r_1.2.1,(r_1.2.2.1,r_1.2.2.2.1,r_1.2.2.2.2.1),r_1.2.2.2.2.2.1,r_1.2.2.2.2.2.2.1,r_1.2.2.2.2.2.2.2.1,r_1.2.2.2.2.2.2.2.2.1,r_1.2.2.2.2.2.2.2.2.2.1,r_1.2.2.2.2.2.2.2.2.2.2.1,r_1.2.2.2.2.2.2.2.2.2.2.2.1,r_1.2.2.2.2.2.2.2.2.2.2.2.2.1)])) none) (some (j,l,N,O))
theorem d1_cn (k0:Pr E g2.A g2.R) (k1:Pr E g9.A g9.R) (k2:Pr E T1 R):∀ v:T1,Cn E (d1 k0.p k1.p k2.p v) fun i=>d1 (k0.q i) (k1.q i) (k2.q i) v:=fun (a,b,e,j,l,m,o,s,t,u,w,x,y,z,B,C,D,G,H,I,J,K,P,N,O)=>(.br (.bnd (k0.h _) fun _=>(.bnd (k1.h _) fun _=>(.br (k2.h _) .none))) .some)
theorem l1_b ( k m1:Nat):∀ v:T1,run (cs m1) (loopN cs m1) b9 (kLoop cs m1 b9 (K9 k)) (s1 v) = d1 (g2.f m1) (g9.f m1) (l1 k m1) v:=fun (a,b,e,j,l,m,o,s,t,u,w,x,y,z,B,C,D,G,H,I,J,K,P,N,O)=>by kernel_rfl
theorem D1_of (v:T1) {r:R} (h:d1 g2.F g9.F D1 v = some r):D1 v = some r:=loop_of 1 (fun L n hn=>by show l1 (L 0) (L 1) v = _; rw [hn]; exact (held_eq _).trans ((loopN_succ _ _ _ _ _).trans (l1_b (L 0) n v))) (d1_cn (lp g2.f 1) (lp g9.f 1) (.mk fun v=>(D1_cn v).re [0,1]) v) h
noncomputable def f (k:Nat):Y:=fun v=>held (runFn cs k Tryz.f17 (sh.args v) (sh.slots v) dec)
noncomputable def F:Y:=lm f
def d (p0:g2.Y) (p1:Y0):Y:=fun (a,b,e,j,l,m,o,s,t,u,w,x,y,z,B,C,D,G,H) =>
bnd (p0 (1,3,G,H)) fun r=>p1 (D,r.1,0,r.2.1,r.2.2,a,b,e,j,l,m,o,s,t,u,w,x,y,z,B,C,[],[],[],[])
theorem d_cn (k0:Pr E g2.A g2.R) (k1:Pr E T0 R):∀ v:A,Cn E (d k0.p k1.p v) fun i=>d (k0.q i) (k1.q i) v:=fun (a,b,e,j,l,m,o,s,t,u,w,x,y,z,B,C,D,G,H)=>(.bnd (k0.h _) fun _=>(k1.h _))
theorem f_b (k:Nat):∀ v:A,f k v = d (g2.f k) (l0 k k) v:=fun (a,b,e,j,l,m,o,s,t,u,w,x,y,z,B,C,D,G,H)=>(held_eq _).trans (by kernel_rfl)
theorem F_of (v:A) {r:R} (h:d g2.F D0 v = some r):F v = some r:=join_of (fun L=>f_b (L 0) v) (d_cn (lp g2.f 0) (.mk fun v=>(D0_cn v).re [0,0]) v) h
noncomputable def spec (k:Nat):List AV→List Slot→Option Ans:=specS sh os (f k)
theorem spec_ok (k:Nat):SpecOk Tryz.prog 17 (spec k):=specS_ok cs_ok Tryz.func17 rfl rfl (fun _ _=>held_eq _) k
end g10
noncomputable def tg10:=tg9.cons 17 g10.spec g10.spec_ok
namespace g11 -- plan_Start
abbrev R:Type:=Int × Int × Int × List (List Int)
abbrev A:Type:=Int × Int × Int × Int × Int × Int × Int × Int × Int × Int × List (ByteArray × Int) × List (Int × Int × (Int × Int × Int) × Int × Int × Int × Int × Int × Int × Int × Int)
abbrev Y:=A→Option R
def lv:List (Nat × List Nat):=[(3000000,[10]),(2000000,[4])]
noncomputable def cs:Nat→Ctx:=ctxOf tis modes tg10.1 lv
theorem cs_ok (n:Nat):CtxOk Tryz.prog (cs n):=ctxOf_ok rfl tis_ok tg10.2 n
def sh:AS:=⟨[.agg [.int .i64,.int .i64,.int .i64,.int .i64,.int .i64,.int .i64,.int .i64,.int .i64,.int .i64,.int .i64],.agg [.frz y19,.frz y27]],[]⟩
def os:OS:=⟨.agg [.int .i64,.int .i64,.int .i64,.sl 128000000],[(.nest y4)]⟩
def enc (r:R):Out:=os.enc r
def dec:Out→Option R:=os.dec
noncomputable def b0:Code:=subF [] Tryz.f49
noncomputable def K0 (k:Nat):Kt R:=kTop (cs k) Tryz.f49 dec
noncomputable def f (k:Nat):Y:=fun v=>held (runFn cs k Tryz.f49 (sh.args v) (sh.slots v) dec)
noncomputable def F:Y:=lm f
def d:Y:=fun (a,b,e,j,l,m,o,s,t,u,w,x) =>
br (decide (0 ≤ (↑x.length:Int) ∧ (↑x.length:Int) ≤ (↑x.length:Int) ∧ (↑x.length:Int) ≤ (↑(140737488355328 / 24):Int))) (some (0,t,u,List.replicate (↑x.length:Int).toNat (Ty.int .i64).slice.dflt)) none
theorem d_cn:∀ v:A,Cn E (d v) fun i=>d v:=fun (a,b,e,j,l,m,o,s,t,u,w,x)=>(.br .some .none)
theorem f_b (k:Nat):∀ v:A,f k v = d v:=fun (a,b,e,j,l,m,o,s,t,u,w,x)=>(held_eq _).trans (by kernel_rfl)
theorem F_of (v:A) {r:R} (h:d v = some r):F v = some r:=join_of (fun L=>f_b (L 0) v) (d_cn v) h
noncomputable def spec (k:Nat):List AV→List Slot→Option Ans:=specS sh os (f k)
theorem spec_ok (k:Nat):SpecOk Tryz.prog 49 (spec k):=specS_ok cs_ok Tryz.func49 rfl rfl (fun _ _=>held_eq _) k
end g11
noncomputable def tg11:=tg10.cons 49 g11.spec g11.spec_ok
namespace g12 -- prop_within
abbrev R:Type:=Bool
abbrev A:Type:=Int × Int × Int
abbrev Y:=A→Option R
def lv:List (Nat × List Nat):=[(2000000,[6])]
noncomputable def cs:Nat→Ctx:=ctxOf tis modes tg11.1 lv
theorem cs_ok (n:Nat):CtxOk Tryz.prog (cs n):=ctxOf_ok rfl tis_ok tg11.2 n
def sh:AS:=⟨[.c (.int .i64),.c (.int .i64),.c (.int .i64)],[]⟩
def os:OS:=⟨.c .bool,[]⟩
def enc (r:R):Out:=os.enc r
def dec:Out→Option R:=os.dec
noncomputable def b0:Code:=subF [] Tryz.f93
noncomputable def K0 (k:Nat):Kt R:=kTop (cs k) Tryz.f93 dec
noncomputable def f (k:Nat):Y:=fun v=>held (runFn cs k Tryz.f93 (sh.args v) (sh.slots v) dec)
noncomputable def F:Y:=lm f
def d:Y:=fun (a,b,e) =>
some (decide (b ≤ a) && decide (a ≤ e))
theorem d_cn:∀ v:A,Cn E (d v) fun i=>d v:=fun (a,b,e)=>.some
theorem f_b (k:Nat):∀ v:A,f k v = d v:=fun (a,b,e)=>(held_eq _).trans (by kernel_rfl)
theorem F_of (v:A) {r:R} (h:d v = some r):F v = some r:=join_of (fun L=>f_b (L 0) v) (d_cn v) h
noncomputable def spec (k:Nat):List AV→List Slot→Option Ans:=specS sh os (f k)
theorem spec_ok (k:Nat):SpecOk Tryz.prog 93 (spec k):=specS_ok cs_ok Tryz.func93 rfl rfl (fun _ _=>held_eq _) k
end g12
noncomputable def tg12:=tg11.cons 93 g12.spec g12.spec_ok
namespace g13 -- num_size
abbrev R:Type:=Int
abbrev A:Type:=Int
abbrev Y:=A→Option R
def lv:List (Nat × List Nat):=[(2000000,[2])]
noncomputable def cs:Nat→Ctx:=ctxOf tis modes tg12.1 lv
theorem cs_ok (n:Nat):CtxOk Tryz.prog (cs n):=ctxOf_ok rfl tis_ok tg12.2 n
def sh:AS:=⟨[(.c (.int .i64))],[]⟩
def os:OS:=⟨.c (.int .u64),[]⟩
def enc (r:R):Out:=os.enc r
def dec:Out→Option R:=os.dec
noncomputable def b0:Code:=subF [] Tryz.f201
noncomputable def K0 (k:Nat):Kt R:=kTop (cs k) Tryz.f201 dec
noncomputable def f (k:Nat):Y:=fun v=>held (runFn cs k Tryz.f201 (sh.args v) (sh.slots v) dec)
noncomputable def F:Y:=lm f
def d:Y:=fun a =>
br (decide (a < 0)) (some (wrap .u64 (0 - wrap .u64 a))) (some (wrap .u64 a))
theorem d_cn:∀ v:A,Cn E (d v) fun i=>d v:=fun a=>(.br .some .some)
theorem f_b (k:Nat):∀ v:A,f k v = d v:=fun a=>(held_eq _).trans (by kernel_rfl)
theorem F_of (v:A) {r:R} (h:d v = some r):F v = some r:=join_of (fun L=>f_b (L 0) v) (d_cn v) h
noncomputable def spec (k:Nat):List AV→List Slot→Option Ans:=specS sh os (f k)
theorem spec_ok (k:Nat):SpecOk Tryz.prog 201 (spec k):=specS_ok cs_ok Tryz.func201 rfl rfl (fun _ _=>held_eq _) k
end g13
noncomputable def tg13:=tg12.cons 201 g13.spec g13.spec_ok
namespace g14 -- num_Gcd
abbrev R:Type:=Int
abbrev A:Type:=Int × Int
abbrev Y:=A→Option R
def lv:List (Nat × List Nat):=[(2000000,[4]),(2,[5,6])]
noncomputable def cs:Nat→Ctx:=ctxOf tis modes tg13.1 lv
theorem cs_ok (n:Nat):CtxOk Tryz.prog (cs n):=ctxOf_ok rfl tis_ok tg13.2 n
def sh:AS:=⟨[.c (.int .i64),.c (.int .i64)],[]⟩
def os:OS:=⟨.c (.int .i64),[]⟩
def enc (r:R):Out:=os.enc r
def dec:Out→Option R:=os.dec
noncomputable def b0:Code:=subF [] Tryz.f195
noncomputable def K0 (k:Nat):Kt R:=kTop (cs k) Tryz.f195 dec
noncomputable def b2:Code:=sub [1,1,0,0,0] b0
noncomputable def K2 ( k:Nat):Kt R:=kAt (cs k) (loopN cs k) [1,1,0,0] b0 (K0 k)
abbrev T0:Type:=Int × Int
abbrev Y0:=T0→Option R
def s0:T0→St:=fun (a,b)=>⟨20,0,[(5,.c (.int .u64 a)),(6,.c (.int .u64 b))],[],[(256000000,.gone)]⟩
noncomputable def l0 ( k n:Nat) (v:T0):Option R:=held (loopN cs n b2 (K2 k) (s0 v))
noncomputable def D0 (v:T0):Option R:=lim fun L=>l0 (L 0) (L 1) v
theorem D0_cn (v:T0):Cn late (D0 v) fun L=>l0 (L 0) (L 1) v:=of_lim
def d0 (p0:Y0):Y0:=fun (a,b) =>
br (decide (0 < b)) (br (!decide (b = 0)) (p0 (b,a.tmod b)) none) (some (wrap .i64 (bAnn .u64 a 9223372036854775808)))
theorem d0_cn (k0:Pr E T0 R):∀ v:T0,Cn E (d0 k0.p v) fun i=>d0 (k0.q i) v:=fun (a,b)=>(.br (.br (k0.h _) .none) .some)
theorem l0_b ( k m1:Nat):∀ v:T0,run (cs m1) (loopN cs m1) b2 (kLoop cs m1 b2 (K2 k)) (s0 v) = d0 (l0 k m1) v:=fun (a,b)=>by kernel_rfl
theorem D0_of (v:T0) {r:R} (h:d0 D0 v = some r):D0 v = some r:=loop_of 1 (fun L n hn=>by show l0 (L 0) (L 1) v = _; rw [hn]; exact (held_eq _).trans ((loopN_succ _ _ _ _ _).trans (l0_b (L 0) n v))) (d0_cn (.mk fun v=>(D0_cn v).re [0,1]) v) h
noncomputable def f (k:Nat):Y:=fun v=>held (runFn cs k Tryz.f195 (sh.args v) (sh.slots v) dec)
noncomputable def F:Y:=lm f
def d (p0:g13.Y) (p1:Y0):Y:=fun (a,b) =>
bnd (p0 a) fun r=>bnd (p0 b) fun r_1=>p1 (r,r_1)
theorem d_cn (k0:Pr E g13.A g13.R) (k1:Pr E T0 R):∀ v:A,Cn E (d k0.p k1.p v) fun i=>d (k0.q i) (k1.q i) v:=fun (a,b)=>(.bnd (k0.h _) fun _=>(.bnd (k0.h _) fun _=>(k1.h _)))
theorem f_b (k:Nat):∀ v:A,f k v = d (g13.f k) (l0 k k) v:=fun (a,b)=>(held_eq _).trans (by kernel_rfl)
theorem F_of (v:A) {r:R} (h:d g13.F D0 v = some r):F v = some r:=join_of (fun L=>f_b (L 0) v) (d_cn (lp g13.f 0) (.mk fun v=>(D0_cn v).re [0,0]) v) h
noncomputable def spec (k:Nat):List AV→List Slot→Option Ans:=specS sh os (f k)
theorem spec_ok (k:Nat):SpecOk Tryz.prog 195 (spec k):=specS_ok cs_ok Tryz.func195 rfl rfl (fun _ _=>held_eq _) k
end g14
noncomputable def tg14:=tg13.cons 195 g14.spec g14.spec_ok
namespace g15 -- frac_Check
abbrev R:Type:=Int
abbrev A:Type:=Int × Int
abbrev Y:=A→Option R
def lv:List (Nat × List Nat):=[(2000000,[2])]
noncomputable def cs:Nat→Ctx:=ctxOf tis modes tg14.1 lv
theorem cs_ok (n:Nat):CtxOk Tryz.prog (cs n):=ctxOf_ok rfl tis_ok tg14.2 n
def sh:AS:=⟨[(.agg [.int .i64,.int .i64])],[]⟩
def os:OS:=⟨.c (.int .i64),[]⟩
def enc (r:R):Out:=os.enc r
def dec:Out→Option R:=os.dec
noncomputable def b0:Code:=subF [] Tryz.f163
noncomputable def K0 (k:Nat):Kt R:=kTop (cs k) Tryz.f163 dec
noncomputable def f (k:Nat):Y:=fun v=>held (runFn cs k Tryz.f163 (sh.args v) (sh.slots v) dec)
noncomputable def F:Y:=lm f
def d (p0:g14.Y):Y:=fun (a,b) =>
br (decide (a < -1152921504606846976) || decide (1152921504606846976 < a) || decide (b < 1) || decide (1152921504606846976 < b)) (some 4) (bnd (p0 (a,b)) fun r=>br (!decide (r = 1)) (some 3) (some 0))
theorem d_cn (k0:Pr E g14.A g14.R):∀ v:A,Cn E (d k0.p v) fun i=>d (k0.q i) v:=fun (a,b)=>(.br .some (.bnd (k0.h _) fun _=>(.br .some .some)))
theorem f_b (k:Nat):∀ v:A,f k v = d (g14.f k) v:=fun (a,b)=>(held_eq _).trans (by kernel_rfl)
theorem F_of (v:A) {r:R} (h:d g14.F v = some r):F v = some r:=join_of (fun L=>f_b (L 0) v) (d_cn (lp g14.f 0) v) h
noncomputable def spec (k:Nat):List AV→List Slot→Option Ans:=specS sh os (f k)
theorem spec_ok (k:Nat):SpecOk Tryz.prog 163 (spec k):=specS_ok cs_ok Tryz.func163 rfl rfl (fun _ _=>held_eq _) k
end g15
noncomputable def tg15:=tg14.cons 163 g15.spec g15.spec_ok
namespace g16 -- num_CeilDiv
abbrev R:Type:=Int
abbrev A:Type:=Int × Int
abbrev Y:=A→Option R
def lv:List (Nat × List Nat):=[(2000000,[4]),(1000006,[5])]
noncomputable def cs:Nat→Ctx:=ctxOf tis modes tg15.1 lv
theorem cs_ok (n:Nat):CtxOk Tryz.prog (cs n):=ctxOf_ok rfl tis_ok tg15.2 n
def sh:AS:=⟨[.c (.int .i64),.c (.int .i64)],[]⟩
def os:OS:=⟨.c (.int .i64),[]⟩
def enc (r:R):Out:=os.enc r
def dec:Out→Option R:=os.dec
noncomputable def b0:Code:=subF [] Tryz.f197
noncomputable def K0 (k:Nat):Kt R:=kTop (cs k) Tryz.f197 dec
noncomputable def c1000006:Code:=sub [1,1,1,1] b0
noncomputable def J1000006 ( k:Nat):Kt R:=kAt (cs k) (loopN cs k) [1,1,1,1] b0 (K0 k)
abbrev T0:Type:=Int
abbrev Y0:=T0→Option R
def s0:T0→St:=fun a=>⟨18,0,[(5,.c (.int .i64 a))],[],[(256000000,.gone)]⟩
noncomputable def l0 ( k:Nat) (v:T0):Option R:=held (run (cs k) (loopN cs k) c1000006 (J1000006 k) (s0 v))
noncomputable def D0 (v:T0):Option R:=lim fun L=>l0 (L 0) v
theorem D0_cn (v:T0):Cn late (D0 v) fun L=>l0 (L 0) v:=of_lim
def d0:Y0:=fun a =>
some a
theorem d0_cn:∀ v:T0,Cn E (d0 v) fun i=>d0 v:=fun a=>.some
theorem l0_b ( k:Nat):∀ v:T0,run (cs k) (loopN cs k) c1000006 (J1000006 k) (s0 v) = d0 v:=fun a=>by kernel_rfl
theorem D0_of (v:T0) {r:R} (h:d0 v = some r):D0 v = some r:=join_of (fun L=>(held_eq _).trans (l0_b (L 0) v)) (d0_cn v) h
noncomputable def f (k:Nat):Y:=fun v=>held (runFn cs k Tryz.f197 (sh.args v) (sh.slots v) dec)
noncomputable def F:Y:=lm f
def d (p0:Y0):Y:=fun (a,b) =>
br (decide (b < 1)) (some 0) (br (!decide (b = 0)) (br (!decide (b = 0)) (br (decide (0 < a.tmod b)) (p0 (wrap .i64 (wrap .i64 (a.tdiv b) + 1))) (p0 (wrap .i64 (a.tdiv b)))) none) none)
theorem d_cn (k0:Pr E T0 R):∀ v:A,Cn E (d k0.p v) fun i=>d (k0.q i) v:=fun (a,b)=>(.br .some (.br (.br (.br (k0.h _) (k0.h _)) .none) .none))
theorem f_b (k:Nat):∀ v:A,f k v = d (l0 k) v:=fun (a,b)=>(held_eq _).trans (by kernel_rfl)
theorem F_of (v:A) {r:R} (h:d D0 v = some r):F v = some r:=join_of (fun L=>f_b (L 0) v) (d_cn (.mk fun v=>(D0_cn v).re [0]) v) h
noncomputable def spec (k:Nat):List AV→List Slot→Option Ans:=specS sh os (f k)
theorem spec_ok (k:Nat):SpecOk Tryz.prog 197 (spec k):=specS_ok cs_ok Tryz.func197 rfl rfl (fun _ _=>held_eq _) k
end g16
noncomputable def tg16:=tg15.cons 197 g16.spec g16.spec_ok
namespace g17 -- frac_rounded
abbrev R:Type:=Int
abbrev A:Type:=Int × Int
abbrev Y:=A→Option R
def lv:List (Nat × List Nat):=[(2000000,[4])]
noncomputable def cs:Nat→Ctx:=ctxOf tis modes tg16.1 lv
theorem cs_ok (n:Nat):CtxOk Tryz.prog (cs n):=ctxOf_ok rfl tis_ok tg16.2 n
def sh:AS:=⟨[.agg [.int .i64,.int .i64],.c (.func 197 [])],[]⟩
def os:OS:=⟨.c (.int .i64),[]⟩
def enc (r:R):Out:=os.enc r
def dec:Out→Option R:=os.dec
noncomputable def b0:Code:=subF [] Tryz.f196
noncomputable def K0 (k:Nat):Kt R:=kTop (cs k) Tryz.f196 dec
noncomputable def f (k:Nat):Y:=fun v=>held (runFn cs k Tryz.f196 (sh.args v) (sh.slots v) dec)
noncomputable def F:Y:=lm f
def d (p0:g15.Y) (p1:g16.Y):Y:=fun (a,b) =>
bnd (p0 (a,b)) fun r=>br (!decide (r = 0)) (some 0) (bnd (p1 (a,b)) fun r=>some r)
theorem d_cn (k0:Pr E g15.A g15.R) (k1:Pr E g16.A g16.R):∀ v:A,Cn E (d k0.p k1.p v) fun i=>d (k0.q i) (k1.q i) v:=fun (a,b)=>(.bnd (k0.h _) fun _=>(.br .some (.bnd (k1.h _) fun _=>.some)))
theorem f_b (k:Nat):∀ v:A,f k v = d (g15.f k) (g16.f k) v:=fun (a,b)=>(held_eq _).trans (by kernel_rfl)
theorem F_of (v:A) {r:R} (h:d g15.F g16.F v = some r):F v = some r:=join_of (fun L=>f_b (L 0) v) (d_cn (lp g15.f 0) (lp g16.f 0) v) h
noncomputable def spec (k:Nat):List AV→List Slot→Option Ans:=specS sh os (f k)
theorem spec_ok (k:Nat):SpecOk Tryz.prog 196 (spec k):=specS_ok cs_ok Tryz.func196 rfl rfl (fun _ _=>held_eq _) k
end g17
noncomputable def tg17:=tg16.cons 196 g17.spec g17.spec_ok
namespace g18 -- frac_Ceil
abbrev R:Type:=Int
abbrev A:Type:=Int × Int
abbrev Y:=A→Option R
def lv:List (Nat × List Nat):=[(2000000,[2])]
noncomputable def cs:Nat→Ctx:=ctxOf tis modes tg17.1 lv
theorem cs_ok (n:Nat):CtxOk Tryz.prog (cs n):=ctxOf_ok rfl tis_ok tg17.2 n
def sh:AS:=⟨[(.agg [.int .i64,.int .i64])],[]⟩
def os:OS:=⟨.c (.int .i64),[]⟩
def enc (r:R):Out:=os.enc r
def dec:Out→Option R:=os.dec
noncomputable def b0:Code:=subF [] Tryz.f164
noncomputable def K0 (k:Nat):Kt R:=kTop (cs k) Tryz.f164 dec
noncomputable def f (k:Nat):Y:=fun v=>held (runFn cs k Tryz.f164 (sh.args v) (sh.slots v) dec)
noncomputable def F:Y:=lm f
def d (p0:g17.Y):Y:=fun (a,b) =>
bnd (p0 (a,b)) fun r=>some r
theorem d_cn (k0:Pr E g17.A g17.R):∀ v:A,Cn E (d k0.p v) fun i=>d (k0.q i) v:=fun (a,b)=>(.bnd (k0.h _) fun _=>.some)
theorem f_b (k:Nat):∀ v:A,f k v = d (g17.f k) v:=fun (a,b)=>(held_eq _).trans (by kernel_rfl)
theorem F_of (v:A) {r:R} (h:d g17.F v = some r):F v = some r:=join_of (fun L=>f_b (L 0) v) (d_cn (lp g17.f 0) v) h
noncomputable def spec (k:Nat):List AV→List Slot→Option Ans:=specS sh os (f k)
theorem spec_ok (k:Nat):SpecOk Tryz.prog 164 (spec k):=specS_ok cs_ok Tryz.func164 rfl rfl (fun _ _=>held_eq _) k
end g18
noncomputable def tg18:=tg17.cons 164 g18.spec g18.spec_ok
namespace g19 -- scale_CheckRate
abbrev R:Type:=Int
abbrev A:Type:=Int × Int × Int × Int
abbrev Y:=A→Option R
def lv:List (Nat × List Nat):=[(2000000,[2])]
noncomputable def cs:Nat→Ctx:=ctxOf tis modes tg18.1 lv
theorem cs_ok (n:Nat):CtxOk Tryz.prog (cs n):=ctxOf_ok rfl tis_ok tg18.2 n
def sh:AS:=⟨[(.agg [.int .i64,.int .i64,.int .i64,.int .i64])],[]⟩
def os:OS:=⟨.c (.int .i64),[]⟩
def enc (r:R):Out:=os.enc r
def dec:Out→Option R:=os.dec
noncomputable def b0:Code:=subF [] Tryz.f116
noncomputable def K0 (k:Nat):Kt R:=kTop (cs k) Tryz.f116 dec
noncomputable def f (k:Nat):Y:=fun v=>held (runFn cs k Tryz.f116 (sh.args v) (sh.slots v) dec)
noncomputable def F:Y:=lm f
def d (p0:g15.Y) (p1:g18.Y):Y:=fun (a,b,e,j) =>
bnd (p0 (e,j)) fun r=>br (decide (a < -17592186044416) || decide (17592186044416 < a) || decide (b < 0) || decide (4294967296 ≤ b)) (some 4) (br (!decide (r = 0)) (some r) (br (decide (e < 1) == false) (bnd (p1 (e,j)) fun r=>br (decide (65536 < r)) (some 1) (some 0)) (some 1)))
theorem d_cn (k0:Pr E g15.A g15.R) (k1:Pr E g18.A g18.R):∀ v:A,Cn E (d k0.p k1.p v) fun i=>d (k0.q i) (k1.q i) v:=fun (a,b,e,j)=>(.bnd (k0.h _) fun _=>(.br .some (.br .some (.br (.bnd (k1.h _) fun _=>(.br .some .some)) .some))))
theorem f_b (k:Nat):∀ v:A,f k v = d (g15.f k) (g18.f k) v:=fun (a,b,e,j)=>(held_eq _).trans (by kernel_rfl)
theorem F_of (v:A) {r:R} (h:d g15.F g18.F v = some r):F v = some r:=join_of (fun L=>f_b (L 0) v) (d_cn (lp g15.f 0) (lp g18.f 0) v) h
noncomputable def spec (k:Nat):List AV→List Slot→Option Ans:=specS sh os (f k)
theorem spec_ok (k:Nat):SpecOk Tryz.prog 116 (spec k):=specS_ok cs_ok Tryz.func116 rfl rfl (fun _ _=>held_eq _) k
end g19
noncomputable def tg19:=tg18.cons 116 g19.spec g19.spec_ok
namespace g20 -- cmp_Or_Errno
abbrev R:Type:=Int
abbrev A:Type:=List Int
abbrev Y:=A→Option R
def lv:List (Nat × List Nat):=[(2000000,[2]),(3,[3,6,7,8])]
noncomputable def cs:Nat→Ctx:=ctxOf tis modes tg19.1 lv
theorem cs_ok (n:Nat):CtxOk Tryz.prog (cs n):=ctxOf_ok rfl tis_ok tg19.2 n
def sh:AS:=⟨[(.c (.frz (.int .i64)))],[]⟩
def os:OS:=⟨.c (.int .i64),[]⟩
def enc (r:R):Out:=os.enc r
def dec:Out→Option R:=os.dec
noncomputable def b0:Code:=subF [] Tryz.f119
noncomputable def K0 (k:Nat):Kt R:=kTop (cs k) Tryz.f119 dec
noncomputable def b3:Code:=sub [1,1,0,1,0,0] b0
noncomputable def K3 ( k:Nat):Kt R:=kAt (cs k) (loopN cs k) [1,1,0,1,0] b0 (K0 k)
abbrev T0:Type:=Int × List Int × Int × Int
abbrev Y0:=T0→Option R
def s0:T0→St:=fun (a,b,e,j)=>⟨18,0,[(3,.c (.int .i64 a)),(6,.c (.frz (.int .i64) b)),(7,.c (.int .i64 e)),(8,.c (.int .i64 j))],[],[(256000000,.gone)]⟩
noncomputable def l0 ( k n:Nat) (v:T0):Option R:=held (loopN cs n b3 (K3 k) (s0 v))
noncomputable def D0 (v:T0):Option R:=lim fun L=>l0 (L 0) (L 1) v
theorem D0_cn (v:T0):Cn late (D0 v) fun L=>l0 (L 0) (L 1) v:=of_lim
def d0 (p0:Y0):Y0:=fun (a,b,e,j) =>
br (decide (j < e)) (br (decide (0 ≤ j ∧ j < (↑b.length:Int))) (br (!decide (rd (Ty.int .i64) b j = a)) (some (rd (Ty.int .i64) b j)) (p0 (a,b,e,wrap .i64 (j + 1)))) none) (some a)
theorem d0_cn (k0:Pr E T0 R):∀ v:T0,Cn E (d0 k0.p v) fun i=>d0 (k0.q i) v:=fun (a,b,e,j)=>(.br (.br (.br .some (k0.h _)) .none) .some)
theorem l0_b ( k m1:Nat):∀ v:T0,run (cs m1) (loopN cs m1) b3 (kLoop cs m1 b3 (K3 k)) (s0 v) = d0 (l0 k m1) v:=fun (a,b,e,j)=>by kernel_rfl
theorem D0_of (v:T0) {r:R} (h:d0 D0 v = some r):D0 v = some r:=loop_of 1 (fun L n hn=>by show l0 (L 0) (L 1) v = _; rw [hn]; exact (held_eq _).trans ((loopN_succ _ _ _ _ _).trans (l0_b (L 0) n v))) (d0_cn (.mk fun v=>(D0_cn v).re [0,1]) v) h
noncomputable def f (k:Nat):Y:=fun v=>held (runFn cs k Tryz.f119 (sh.args v) (sh.slots v) dec)
noncomputable def F:Y:=lm f
def d (p0:Y0):Y:=fun a =>
p0 (0,a,(↑a.length:Int),0)
theorem d_cn (k0:Pr E T0 R):∀ v:A,Cn E (d k0.p v) fun i=>d (k0.q i) v:=fun a=>(k0.h _)
theorem f_b (k:Nat):∀ v:A,f k v = d (l0 k k) v:=fun a=>(held_eq _).trans (by kernel_rfl)
theorem F_of (v:A) {r:R} (h:d D0 v = some r):F v = some r:=join_of (fun L=>f_b (L 0) v) (d_cn (.mk fun v=>(D0_cn v).re [0,0]) v) h
noncomputable def spec (k:Nat):List AV→List Slot→Option Ans:=specS sh os (f k)
theorem spec_ok (k:Nat):SpecOk Tryz.prog 119 (spec k):=specS_ok cs_ok Tryz.func119 rfl rfl (fun _ _=>held_eq _) k
end g20
noncomputable def tg20:=tg19.cons 119 g20.spec g20.spec_ok
namespace g21 -- frac_both
abbrev R:Type:=Int
abbrev A:Type:=Int × Int × Int × Int
abbrev Y:=A→Option R
def lv:List (Nat × List Nat):=[(2000000,[4])]
noncomputable def cs:Nat→Ctx:=ctxOf tis modes tg20.1 lv
theorem cs_ok (n:Nat):CtxOk Tryz.prog (cs n):=ctxOf_ok rfl tis_ok tg20.2 n
def sh:AS:=⟨[.agg [.int .i64,.int .i64],.agg [.int .i64,.int .i64]],[]⟩
def os:OS:=⟨.c (.int .i64),[]⟩
def enc (r:R):Out:=os.enc r
def dec:Out→Option R:=os.dec
noncomputable def b0:Code:=subF [] Tryz.f171
noncomputable def K0 (k:Nat):Kt R:=kTop (cs k) Tryz.f171 dec
noncomputable def f (k:Nat):Y:=fun v=>held (runFn cs k Tryz.f171 (sh.args v) (sh.slots v) dec)
noncomputable def F:Y:=lm f
def d (p0:g15.Y) (p1:g20.Y):Y:=fun (a,b,e,j) =>
bnd (p0 (a,b)) fun r=>bnd (p0 (e,j)) fun r_1=>bnd (p1 [r,r_1]) fun r=>some r
theorem d_cn (k0:Pr E g15.A g15.R) (k1:Pr E g20.A g20.R):∀ v:A,Cn E (d k0.p k1.p v) fun i=>d (k0.q i) (k1.q i) v:=fun (a,b,e,j)=>(.bnd (k0.h _) fun _=>(.bnd (k0.h _) fun _=>(.bnd (k1.h _) fun _=>.some)))
theorem f_b (k:Nat):∀ v:A,f k v = d (g15.f k) (g20.f k) v:=fun (a,b,e,j)=>(held_eq _).trans (by kernel_rfl)
theorem F_of (v:A) {r:R} (h:d g15.F g20.F v = some r):F v = some r:=join_of (fun L=>f_b (L 0) v) (d_cn (lp g15.f 0) (lp g20.f 0) v) h
noncomputable def spec (k:Nat):List AV→List Slot→Option Ans:=specS sh os (f k)
theorem spec_ok (k:Nat):SpecOk Tryz.prog 171 (spec k):=specS_ok cs_ok Tryz.func171 rfl rfl (fun _ _=>held_eq _) k
end g21
noncomputable def tg21:=tg20.cons 171 g21.spec g21.spec_ok
namespace g22 -- bits_Mul64
abbrev R:Type:=Int × Int
abbrev A:Type:=Int × Int
abbrev Y:=A→Option R
def lv:List (Nat × List Nat):=[(2000000,[4,5])]
noncomputable def cs:Nat→Ctx:=ctxOf tis modes tg21.1 lv
theorem cs_ok (n:Nat):CtxOk Tryz.prog (cs n):=ctxOf_ok rfl tis_ok tg21.2 n
def sh:AS:=⟨[.c (.int .u64),.c (.int .u64)],[]⟩
def os:OS:=⟨.tup [.c (.int .u64),.c (.int .u64)],[]⟩
def enc (r:R):Out:=os.enc r
def dec:Out→Option R:=os.dec
noncomputable def b0:Code:=subF [] Tryz.f200
noncomputable def K0 (k:Nat):Kt R:=kTop (cs k) Tryz.f200 dec
noncomputable def f (k:Nat):Y:=fun v=>held (runFn cs k Tryz.f200 (sh.args v) (sh.slots v) dec)
noncomputable def F:Y:=lm f
noncomputable def d:Y:=fun (a,b) =>
br (decide ((0:Int) ≤ 32)) (br (decide ((0:Int) ≤ 32)) (br (decide ((0:Int) ≤ 32)) (br (decide ((0:Int) ≤ 32)) (br (decide ((0:Int) ≤ 32)) (some (wrap .u64 (wrap .u64 (wrap .u64 (shr .u64 a 32 * shr .u64 b 32) + shr .u64 (wrap .u64 (wrap .u64 (shr .u64 a 32 * bAnd .u64 b 4294967295) + shr .u64 (wrap .u64 (bAnd .u64 a 4294967295 * bAnd .u64 b 4294967295)) 32)) 32) + shr .u64 (wrap .u64 (bAnd .u64 (wrap .u64 (wrap .u64 (shr .u64 a 32 * bAnd .u64 b 4294967295) + shr .u64 (wrap .u64 (bAnd .u64 a 4294967295 * bAnd .u64 b 4294967295)) 32)) 4294967295 + wrap .u64 (bAnd .u64 a 4294967295 * shr .u64 b 32))) 32),wrap .u64 (a * b))) none) none) none) none) none
theorem d_cn:∀ v:A,Cn E (d v) fun i=>d v:=fun (a,b)=>(.br (.br (.br (.br (.br .some .none) .none) .none) .none) .none)
theorem f_b (k:Nat):∀ v:A,f k v = d v:=fun (a,b)=>(held_eq _).trans (by kernel_rfl)
theorem F_of (v:A) {r:R} (h:d v = some r):F v = some r:=join_of (fun L=>f_b (L 0) v) (d_cn v) h
noncomputable def spec (k:Nat):List AV→List Slot→Option Ans:=specS sh os (f k)
theorem spec_ok (k:Nat):SpecOk Tryz.prog 200 (spec k):=specS_ok cs_ok Tryz.func200 rfl rfl (fun _ _=>held_eq _) k
end g22
noncomputable def tg22:=tg21.cons 200 g22.spec g22.spec_ok
namespace g23 -- bits_Add64
abbrev R:Type:=Int × Int
abbrev A:Type:=Int × Int × Int
abbrev Y:=A→Option R
noncomputable def f (_:Nat):Y:=add64D
noncomputable def F:Y:=lm f
def d:Y:=add64D
theorem d_cn:∀ v:A,Cn E (d v) fun _=>d v:=fun _=>.some
theorem F_of (v:A) {r:R} (h:d v = some r):F v = some r:=join_of (fun L=>rfl) (d_cn v) h
noncomputable def spec (_:Nat):List AV→List Slot→Option Ans:=carrySpec add64D
theorem spec_ok (k:Nat):SpecOk Tryz.prog 218 (spec k):=add64_ok Tryz.func218 rfl rfl rfl (by kernel_rfl)
end g23
noncomputable def tg23:=tg22.cons 218 g23.spec g23.spec_ok
namespace g24 -- num_Wide_Neg
abbrev R:Type:=Int × Int
abbrev A:Type:=Int × Int
abbrev Y:=A→Option R
def lv:List (Nat × List Nat):=[(2000000,[2])]
noncomputable def cs:Nat→Ctx:=ctxOf tis modes tg23.1 lv
theorem cs_ok (n:Nat):CtxOk Tryz.prog (cs n):=ctxOf_ok rfl tis_ok tg23.2 n
def sh:AS:=⟨[(.agg [.int .i64,.int .u64])],[]⟩
def os:OS:=⟨.agg [.int .i64,.int .u64],[]⟩
def enc (r:R):Out:=os.enc r
def dec:Out→Option R:=os.dec
noncomputable def b0:Code:=subF [] Tryz.f202
noncomputable def K0 (k:Nat):Kt R:=kTop (cs k) Tryz.f202 dec
noncomputable def f (k:Nat):Y:=fun v=>held (runFn cs k Tryz.f202 (sh.args v) (sh.slots v) dec)
noncomputable def F:Y:=lm f
def d (p0:g23.Y):Y:=fun (a,b) =>
bnd (p0 (bXor .u64 18446744073709551615 b,1,0)) fun r=>bnd (p0 (bXor .u64 18446744073709551615 (wrap .u64 a),0,r.2)) fun r_1=>some (wrap .i64 r_1.1,r.1)
theorem d_cn (k0:Pr E g23.A g23.R):∀ v:A,Cn E (d k0.p v) fun i=>d (k0.q i) v:=fun (a,b)=>(.bnd (k0.h _) fun _=>(.bnd (k0.h _) fun _=>.some))
theorem f_b (k:Nat):∀ v:A,f k v = d (g23.f k) v:=fun (a,b)=>(held_eq _).trans (by kernel_rfl)
theorem F_of (v:A) {r:R} (h:d g23.F v = some r):F v = some r:=join_of (fun L=>f_b (L 0) v) (d_cn (lp g23.f 0) v) h
noncomputable def spec (k:Nat):List AV→List Slot→Option Ans:=specS sh os (f k)
theorem spec_ok (k:Nat):SpecOk Tryz.prog 202 (spec k):=specS_ok cs_ok Tryz.func202 rfl rfl (fun _ _=>held_eq _) k
end g24
noncomputable def tg24:=tg23.cons 202 g24.spec g24.spec_ok
namespace g25 -- num_Product
abbrev R:Type:=Int × Int
abbrev A:Type:=Int × Int
abbrev Y:=A→Option R
def lv:List (Nat × List Nat):=[(2000000,[4])]
noncomputable def cs:Nat→Ctx:=ctxOf tis modes tg24.1 lv
theorem cs_ok (n:Nat):CtxOk Tryz.prog (cs n):=ctxOf_ok rfl tis_ok tg24.2 n
def sh:AS:=⟨[.c (.int .i64),.c (.int .i64)],[]⟩
def os:OS:=⟨.agg [.int .i64,.int .u64],[]⟩
def enc (r:R):Out:=os.enc r
def dec:Out→Option R:=os.dec
noncomputable def b0:Code:=subF [] Tryz.f172
noncomputable def K0 (k:Nat):Kt R:=kTop (cs k) Tryz.f172 dec
noncomputable def f (k:Nat):Y:=fun v=>held (runFn cs k Tryz.f172 (sh.args v) (sh.slots v) dec)
noncomputable def F:Y:=lm f
def d (p0:g13.Y) (p1:g22.Y) (p2:g24.Y):Y:=fun (a,b) =>
bnd (p0 a) fun r=>bnd (p0 b) fun r_1=>bnd (p1 (r,r_1)) fun r=>br (!decide (a < 0) == decide (b < 0)) (bnd (p2 (wrap .i64 r.1,r.2)) fun r=>some (r.1,r.2)) (some (wrap .i64 r.1,r.2))
theorem d_cn (k0:Pr E g13.A g13.R) (k1:Pr E g22.A g22.R) (k2:Pr E g24.A g24.R):∀ v:A,Cn E (d k0.p k1.p k2.p v) fun i=>d (k0.q i) (k1.q i) (k2.q i) v:=fun (a,b)=>(.bnd (k0.h _) fun _=>(.bnd (k0.h _) fun _=>(.bnd (k1.h _) fun _=>(.br (.bnd (k2.h _) fun _=>.some) .some))))
theorem f_b (k:Nat):∀ v:A,f k v = d (g13.f k) (g22.f k) (g24.f k) v:=fun (a,b)=>(held_eq _).trans (by kernel_rfl)
theorem F_of (v:A) {r:R} (h:d g13.F g22.F g24.F v = some r):F v = some r:=join_of (fun L=>f_b (L 0) v) (d_cn (lp g13.f 0) (lp g22.f 0) (lp g24.f 0) v) h
noncomputable def spec (k:Nat):List AV→List Slot→Option Ans:=specS sh os (f k)
theorem spec_ok (k:Nat):SpecOk Tryz.prog 172 (spec k):=specS_ok cs_ok Tryz.func172 rfl rfl (fun _ _=>held_eq _) k
end g25
noncomputable def tg25:=tg24.cons 172 g25.spec g25.spec_ok
namespace g26 -- cmp_isNaN_int64
abbrev R:Type:=Bool
abbrev A:Type:=Int
abbrev Y:=A→Option R
def lv:List (Nat × List Nat):=[(2000000,[2])]
noncomputable def cs:Nat→Ctx:=ctxOf tis modes tg25.1 lv
theorem cs_ok (n:Nat):CtxOk Tryz.prog (cs n):=ctxOf_ok rfl tis_ok tg25.2 n
def sh:AS:=⟨[(.c (.int .i64))],[]⟩
def os:OS:=⟨.c .bool,[]⟩
def enc (r:R):Out:=os.enc r
def dec:Out→Option R:=os.dec
noncomputable def b0:Code:=subF [] Tryz.f219
noncomputable def K0 (k:Nat):Kt R:=kTop (cs k) Tryz.f219 dec
noncomputable def f (k:Nat):Y:=fun v=>held (runFn cs k Tryz.f219 (sh.args v) (sh.slots v) dec)
noncomputable def F:Y:=lm f
def d:Y:=fun a =>
some !decide (a = a)
theorem d_cn:∀ v:A,Cn E (d v) fun i=>d v:=fun a=>.some
theorem f_b (k:Nat):∀ v:A,f k v = d v:=fun a=>(held_eq _).trans (by kernel_rfl)
theorem F_of (v:A) {r:R} (h:d v = some r):F v = some r:=join_of (fun L=>f_b (L 0) v) (d_cn v) h
noncomputable def spec (k:Nat):List AV→List Slot→Option Ans:=specS sh os (f k)
theorem spec_ok (k:Nat):SpecOk Tryz.prog 219 (spec k):=specS_ok cs_ok Tryz.func219 rfl rfl (fun _ _=>held_eq _) k
end g26
noncomputable def tg26:=tg25.cons 219 g26.spec g26.spec_ok
namespace g27 -- cmp_Compare_int64
abbrev R:Type:=Int
abbrev A:Type:=Int × Int
abbrev Y:=A→Option R
def lv:List (Nat × List Nat):=[(2000000,[4])]
noncomputable def cs:Nat→Ctx:=ctxOf tis modes tg26.1 lv
theorem cs_ok (n:Nat):CtxOk Tryz.prog (cs n):=ctxOf_ok rfl tis_ok tg26.2 n
def sh:AS:=⟨[.c (.int .i64),.c (.int .i64)],[]⟩
def os:OS:=⟨.c (.int .i64),[]⟩
def enc (r:R):Out:=os.enc r
def dec:Out→Option R:=os.dec
noncomputable def b0:Code:=subF [] Tryz.f204
noncomputable def K0 (k:Nat):Kt R:=kTop (cs k) Tryz.f204 dec
noncomputable def f (k:Nat):Y:=fun v=>held (runFn cs k Tryz.f204 (sh.args v) (sh.slots v) dec)
noncomputable def F:Y:=lm f
def d (p0:g26.Y):Y:=fun (a,b) =>
bnd (p0 a) fun r=>bnd (p0 b) fun r_1=>br r (br r_1 (some 0) (some (-1))) (br r_1 (some 1) (br (decide (a < b)) (some (-1)) (br (decide (b < a)) (some 1) (some 0))))
theorem d_cn (k0:Pr E g26.A g26.R):∀ v:A,Cn E (d k0.p v) fun i=>d (k0.q i) v:=fun (a,b)=>(.bnd (k0.h _) fun _=>(.bnd (k0.h _) fun _=>(.br (.br .some .some) (.br .some (.br .some (.br .some .some))))))
theorem f_b (k:Nat):∀ v:A,f k v = d (g26.f k) v:=fun (a,b)=>(held_eq _).trans (by kernel_rfl)
theorem F_of (v:A) {r:R} (h:d g26.F v = some r):F v = some r:=join_of (fun L=>f_b (L 0) v) (d_cn (lp g26.f 0) v) h
noncomputable def spec (k:Nat):List AV→List Slot→Option Ans:=specS sh os (f k)
theorem spec_ok (k:Nat):SpecOk Tryz.prog 204 (spec k):=specS_ok cs_ok Tryz.func204 rfl rfl (fun _ _=>held_eq _) k
end g27
noncomputable def tg27:=tg26.cons 204 g27.spec g27.spec_ok
namespace g28 -- cmp_isNaN_uint64
abbrev R:Type:=Bool
abbrev A:Type:=Int
abbrev Y:=A→Option R
def lv:List (Nat × List Nat):=[(2000000,[2])]
noncomputable def cs:Nat→Ctx:=ctxOf tis modes tg27.1 lv
theorem cs_ok (n:Nat):CtxOk Tryz.prog (cs n):=ctxOf_ok rfl tis_ok tg27.2 n
def sh:AS:=⟨[(.c (.int .u64))],[]⟩
def os:OS:=⟨.c .bool,[]⟩
def enc (r:R):Out:=os.enc r
def dec:Out→Option R:=os.dec
noncomputable def b0:Code:=subF [] Tryz.f220
noncomputable def K0 (k:Nat):Kt R:=kTop (cs k) Tryz.f220 dec
noncomputable def f (k:Nat):Y:=fun v=>held (runFn cs k Tryz.f220 (sh.args v) (sh.slots v) dec)
noncomputable def F:Y:=lm f
def d:Y:=fun a =>
some !decide (a = a)
theorem d_cn:∀ v:A,Cn E (d v) fun i=>d v:=fun a=>.some
theorem f_b (k:Nat):∀ v:A,f k v = d v:=fun a=>(held_eq _).trans (by kernel_rfl)
theorem F_of (v:A) {r:R} (h:d v = some r):F v = some r:=join_of (fun L=>f_b (L 0) v) (d_cn v) h
noncomputable def spec (k:Nat):List AV→List Slot→Option Ans:=specS sh os (f k)
theorem spec_ok (k:Nat):SpecOk Tryz.prog 220 (spec k):=specS_ok cs_ok Tryz.func220 rfl rfl (fun _ _=>held_eq _) k
end g28
noncomputable def tg28:=tg27.cons 220 g28.spec g28.spec_ok
namespace g29 -- cmp_Compare_uint64
abbrev R:Type:=Int
abbrev A:Type:=Int × Int
abbrev Y:=A→Option R
def lv:List (Nat × List Nat):=[(2000000,[4])]
noncomputable def cs:Nat→Ctx:=ctxOf tis modes tg28.1 lv
theorem cs_ok (n:Nat):CtxOk Tryz.prog (cs n):=ctxOf_ok rfl tis_ok tg28.2 n
def sh:AS:=⟨[.c (.int .u64),.c (.int .u64)],[]⟩
def os:OS:=⟨.c (.int .i64),[]⟩
def enc (r:R):Out:=os.enc r
def dec:Out→Option R:=os.dec
noncomputable def b0:Code:=subF [] Tryz.f205
noncomputable def K0 (k:Nat):Kt R:=kTop (cs k) Tryz.f205 dec
noncomputable def f (k:Nat):Y:=fun v=>held (runFn cs k Tryz.f205 (sh.args v) (sh.slots v) dec)
noncomputable def F:Y:=lm f
def d (p0:g28.Y):Y:=fun (a,b) =>
bnd (p0 a) fun r=>bnd (p0 b) fun r_1=>br r (br r_1 (some 0) (some (-1))) (br r_1 (some 1) (br (decide (a < b)) (some (-1)) (br (decide (b < a)) (some 1) (some 0))))
theorem d_cn (k0:Pr E g28.A g28.R):∀ v:A,Cn E (d k0.p v) fun i=>d (k0.q i) v:=fun (a,b)=>(.bnd (k0.h _) fun _=>(.bnd (k0.h _) fun _=>(.br (.br .some .some) (.br .some (.br .some (.br .some .some))))))
theorem f_b (k:Nat):∀ v:A,f k v = d (g28.f k) v:=fun (a,b)=>(held_eq _).trans (by kernel_rfl)
theorem F_of (v:A) {r:R} (h:d g28.F v = some r):F v = some r:=join_of (fun L=>f_b (L 0) v) (d_cn (lp g28.f 0) v) h
noncomputable def spec (k:Nat):List AV→List Slot→Option Ans:=specS sh os (f k)
theorem spec_ok (k:Nat):SpecOk Tryz.prog 205 (spec k):=specS_ok cs_ok Tryz.func205 rfl rfl (fun _ _=>held_eq _) k
end g29
noncomputable def tg29:=tg28.cons 205 g29.spec g29.spec_ok
namespace g30 -- cmp_Or_int
abbrev R:Type:=Int
abbrev A:Type:=List Int
abbrev Y:=A→Option R
def lv:List (Nat × List Nat):=[(2000000,[2]),(3,[3,6,7,8])]
noncomputable def cs:Nat→Ctx:=ctxOf tis modes tg29.1 lv
theorem cs_ok (n:Nat):CtxOk Tryz.prog (cs n):=ctxOf_ok rfl tis_ok tg29.2 n
def sh:AS:=⟨[(.c (.frz (.int .i64)))],[]⟩
def os:OS:=⟨.c (.int .i64),[]⟩
def enc (r:R):Out:=os.enc r
def dec:Out→Option R:=os.dec
noncomputable def b0:Code:=subF [] Tryz.f203
noncomputable def K0 (k:Nat):Kt R:=kTop (cs k) Tryz.f203 dec
noncomputable def b3:Code:=sub [1,1,0,1,0,0] b0
noncomputable def K3 ( k:Nat):Kt R:=kAt (cs k) (loopN cs k) [1,1,0,1,0] b0 (K0 k)
abbrev T0:Type:=Int × List Int × Int × Int
abbrev Y0:=T0→Option R
def s0:T0→St:=fun (a,b,e,j)=>⟨18,0,[(3,.c (.int .i64 a)),(6,.c (.frz (.int .i64) b)),(7,.c (.int .i64 e)),(8,.c (.int .i64 j))],[],[(256000000,.gone)]⟩
noncomputable def l0 ( k n:Nat) (v:T0):Option R:=held (loopN cs n b3 (K3 k) (s0 v))
noncomputable def D0 (v:T0):Option R:=lim fun L=>l0 (L 0) (L 1) v
theorem D0_cn (v:T0):Cn late (D0 v) fun L=>l0 (L 0) (L 1) v:=of_lim
def d0 (p0:Y0):Y0:=fun (a,b,e,j) =>
br (decide (j < e)) (br (decide (0 ≤ j ∧ j < (↑b.length:Int))) (br (!decide (rd (Ty.int .i64) b j = a)) (some (rd (Ty.int .i64) b j)) (p0 (a,b,e,wrap .i64 (j + 1)))) none) (some a)
theorem d0_cn (k0:Pr E T0 R):∀ v:T0,Cn E (d0 k0.p v) fun i=>d0 (k0.q i) v:=fun (a,b,e,j)=>(.br (.br (.br .some (k0.h _)) .none) .some)
theorem l0_b ( k m1:Nat):∀ v:T0,run (cs m1) (loopN cs m1) b3 (kLoop cs m1 b3 (K3 k)) (s0 v) = d0 (l0 k m1) v:=fun (a,b,e,j)=>by kernel_rfl
theorem D0_of (v:T0) {r:R} (h:d0 D0 v = some r):D0 v = some r:=loop_of 1 (fun L n hn=>by show l0 (L 0) (L 1) v = _; rw [hn]; exact (held_eq _).trans ((loopN_succ _ _ _ _ _).trans (l0_b (L 0) n v))) (d0_cn (.mk fun v=>(D0_cn v).re [0,1]) v) h
noncomputable def f (k:Nat):Y:=fun v=>held (runFn cs k Tryz.f203 (sh.args v) (sh.slots v) dec)
noncomputable def F:Y:=lm f
def d (p0:Y0):Y:=fun a =>
p0 (0,a,(↑a.length:Int),0)
theorem d_cn (k0:Pr E T0 R):∀ v:A,Cn E (d k0.p v) fun i=>d (k0.q i) v:=fun a=>(k0.h _)
theorem f_b (k:Nat):∀ v:A,f k v = d (l0 k k) v:=fun a=>(held_eq _).trans (by kernel_rfl)
theorem F_of (v:A) {r:R} (h:d D0 v = some r):F v = some r:=join_of (fun L=>f_b (L 0) v) (d_cn (.mk fun v=>(D0_cn v).re [0,0]) v) h
noncomputable def spec (k:Nat):List AV→List Slot→Option Ans:=specS sh os (f k)
theorem spec_ok (k:Nat):SpecOk Tryz.prog 203 (spec k):=specS_ok cs_ok Tryz.func203 rfl rfl (fun _ _=>held_eq _) k
end g30
noncomputable def tg30:=tg29.cons 203 g30.spec g30.spec_ok
namespace g31 -- num_Wide_Cmp
abbrev R:Type:=Int
abbrev A:Type:=Int × Int × Int × Int
abbrev Y:=A→Option R
def lv:List (Nat × List Nat):=[(2000000,[4])]
noncomputable def cs:Nat→Ctx:=ctxOf tis modes tg30.1 lv
theorem cs_ok (n:Nat):CtxOk Tryz.prog (cs n):=ctxOf_ok rfl tis_ok tg30.2 n
def sh:AS:=⟨[.agg [.int .i64,.int .u64],.agg [.int .i64,.int .u64]],[]⟩
def os:OS:=⟨.c (.int .i64),[]⟩
def enc (r:R):Out:=os.enc r
def dec:Out→Option R:=os.dec
noncomputable def b0:Code:=subF [] Tryz.f173
noncomputable def K0 (k:Nat):Kt R:=kTop (cs k) Tryz.f173 dec
noncomputable def f (k:Nat):Y:=fun v=>held (runFn cs k Tryz.f173 (sh.args v) (sh.slots v) dec)
noncomputable def F:Y:=lm f
def d (p0:g27.Y) (p1:g29.Y) (p2:g30.Y):Y:=fun (a,b,e,j) =>
bnd (p0 (a,e)) fun r=>bnd (p1 (b,j)) fun r_1=>bnd (p2 [r,r_1]) fun r=>some r
theorem d_cn (k0:Pr E g27.A g27.R) (k1:Pr E g29.A g29.R) (k2:Pr E g30.A g30.R):∀ v:A,Cn E (d k0.p k1.p k2.p v) fun i=>d (k0.q i) (k1.q i) (k2.q i) v:=fun (a,b,e,j)=>(.bnd (k0.h _) fun _=>(.bnd (k1.h _) fun _=>(.bnd (k2.h _) fun _=>.some)))
theorem f_b (k:Nat):∀ v:A,f k v = d (g27.f k) (g29.f k) (g30.f k) v:=fun (a,b,e,j)=>(held_eq _).trans (by kernel_rfl)
theorem F_of (v:A) {r:R} (h:d g27.F g29.F g30.F v = some r):F v = some r:=join_of (fun L=>f_b (L 0) v) (d_cn (lp g27.f 0) (lp g29.f 0) (lp g30.f 0) v) h
noncomputable def spec (k:Nat):List AV→List Slot→Option Ans:=specS sh os (f k)
theorem spec_ok (k:Nat):SpecOk Tryz.prog 173 (spec k):=specS_ok cs_ok Tryz.func173 rfl rfl (fun _ _=>held_eq _) k
end g31
noncomputable def tg31:=tg30.cons 173 g31.spec g31.spec_ok
namespace g32 -- frac_Cmp
abbrev R:Type:=Int
abbrev A:Type:=Int × Int × Int × Int
abbrev Y:=A→Option R
def lv:List (Nat × List Nat):=[(2000000,[4])]
noncomputable def cs:Nat→Ctx:=ctxOf tis modes tg31.1 lv
theorem cs_ok (n:Nat):CtxOk Tryz.prog (cs n):=ctxOf_ok rfl tis_ok tg31.2 n
def sh:AS:=⟨[.agg [.int .i64,.int .i64],.agg [.int .i64,.int .i64]],[]⟩
def os:OS:=⟨.c (.int .i64),[]⟩
def enc (r:R):Out:=os.enc r
def dec:Out→Option R:=os.dec
noncomputable def b0:Code:=subF [] Tryz.f136
noncomputable def K0 (k:Nat):Kt R:=kTop (cs k) Tryz.f136 dec
noncomputable def f (k:Nat):Y:=fun v=>held (runFn cs k Tryz.f136 (sh.args v) (sh.slots v) dec)
noncomputable def F:Y:=lm f
def d (p0:g21.Y) (p1:g25.Y) (p2:g31.Y):Y:=fun (a,b,e,j) =>
bnd (p0 (a,b,e,j)) fun r=>br (!decide (r = 0)) (some 0) (bnd (p1 (a,j)) fun r=>bnd (p1 (e,b)) fun r_1=>bnd (p2 (r.1,r.2,r_1.1,r_1.2)) fun r=>some r)
theorem d_cn (k0:Pr E g21.A g21.R) (k1:Pr E g25.A g25.R) (k2:Pr E g31.A g31.R):∀ v:A,Cn E (d k0.p k1.p k2.p v) fun i=>d (k0.q i) (k1.q i) (k2.q i) v:=fun (a,b,e,j)=>(.bnd (k0.h _) fun _=>(.br .some (.bnd (k1.h _) fun _=>(.bnd (k1.h _) fun _=>(.bnd (k2.h _) fun _=>.some)))))
theorem f_b (k:Nat):∀ v:A,f k v = d (g21.f k) (g25.f k) (g31.f k) v:=fun (a,b,e,j)=>(held_eq _).trans (by kernel_rfl)
theorem F_of (v:A) {r:R} (h:d g21.F g25.F g31.F v = some r):F v = some r:=join_of (fun L=>f_b (L 0) v) (d_cn (lp g21.f 0) (lp g25.f 0) (lp g31.f 0) v) h
noncomputable def spec (k:Nat):List AV→List Slot→Option Ans:=specS sh os (f k)
theorem spec_ok (k:Nat):SpecOk Tryz.prog 136 (spec k):=specS_ok cs_ok Tryz.func136 rfl rfl (fun _ _=>held_eq _) k
end g32
noncomputable def tg32:=tg31.cons 136 g32.spec g32.spec_ok
namespace g33 -- prop_CheckSpin
abbrev R:Type:=Int
abbrev A:Type:=Int × Int × Int × Int
abbrev Y:=A→Option R
def lv:List (Nat × List Nat):=[(2000000,[2])]
noncomputable def cs:Nat→Ctx:=ctxOf tis modes tg32.1 lv
theorem cs_ok (n:Nat):CtxOk Tryz.prog (cs n):=ctxOf_ok rfl tis_ok tg32.2 n
def sh:AS:=⟨[(.agg [.int .i64,.int .i64,.int .i64,.int .i64])],[]⟩
def os:OS:=⟨.c (.int .i64),[]⟩
def enc (r:R):Out:=os.enc r
def dec:Out→Option R:=os.dec
noncomputable def b0:Code:=subF [] Tryz.f101
noncomputable def K0 (k:Nat):Kt R:=kTop (cs k) Tryz.f101 dec
noncomputable def f (k:Nat):Y:=fun v=>held (runFn cs k Tryz.f101 (sh.args v) (sh.slots v) dec)
noncomputable def F:Y:=lm f
def d (p0:g19.Y) (p1:g32.Y):Y:=fun (a,b,e,j) =>
bnd (p0 (a,b,e,j)) fun r=>br (!decide (r = 0)) (some r) (bnd (p1 (e,j,1,1)) fun r=>br (decide (r < 0) == false) (bnd (p1 (e,j,100,1)) fun r=>br (decide (0 < r)) (some 4) (some 0)) (some 4))
theorem d_cn (k0:Pr E g19.A g19.R) (k1:Pr E g32.A g32.R):∀ v:A,Cn E (d k0.p k1.p v) fun i=>d (k0.q i) (k1.q i) v:=fun (a,b,e,j)=>(.bnd (k0.h _) fun _=>(.br .some (.bnd (k1.h _) fun _=>(.br (.bnd (k1.h _) fun _=>(.br .some .some)) .some))))
theorem f_b (k:Nat):∀ v:A,f k v = d (g19.f k) (g32.f k) v:=fun (a,b,e,j)=>(held_eq _).trans (by kernel_rfl)
theorem F_of (v:A) {r:R} (h:d g19.F g32.F v = some r):F v = some r:=join_of (fun L=>f_b (L 0) v) (d_cn (lp g19.f 0) (lp g32.f 0) v) h
noncomputable def spec (k:Nat):List AV→List Slot→Option Ans:=specS sh os (f k)
theorem spec_ok (k:Nat):SpecOk Tryz.prog 101 (spec k):=specS_ok cs_ok Tryz.func101 rfl rfl (fun _ _=>held_eq _) k
end g33
noncomputable def tg33:=tg32.cons 101 g33.spec g33.spec_ok
namespace g34 -- sphere_Check
abbrev R:Type:=Int
abbrev A:Type:=Int × Int × Int
abbrev Y:=A→Option R
def lv:List (Nat × List Nat):=[(2000000,[2])]
noncomputable def cs:Nat→Ctx:=ctxOf tis modes tg33.1 lv
theorem cs_ok (n:Nat):CtxOk Tryz.prog (cs n):=ctxOf_ok rfl tis_ok tg33.2 n
def sh:AS:=⟨[(.agg [.int .i64,.int .i64,.int .i64])],[]⟩
def os:OS:=⟨.c (.int .i64),[]⟩
def enc (r:R):Out:=os.enc r
def dec:Out→Option R:=os.dec
noncomputable def b0:Code:=subF [] Tryz.f102
noncomputable def K0 (k:Nat):Kt R:=kTop (cs k) Tryz.f102 dec
noncomputable def f (k:Nat):Y:=fun v=>held (runFn cs k Tryz.f102 (sh.args v) (sh.slots v) dec)
noncomputable def F:Y:=lm f
def d:Y:=fun (a,b,e) =>
br (decide (1048576 < max (max a b) e) || decide (min (min a b) e < -1048576)) (some 4) (br (decide (a = 0) && (decide (b = 0) && (decide (e = 0) && true))) (some 8) (some 0))
theorem d_cn:∀ v:A,Cn E (d v) fun i=>d v:=fun (a,b,e)=>(.br .some (.br .some .some))
theorem f_b (k:Nat):∀ v:A,f k v = d v:=fun (a,b,e)=>(held_eq _).trans (by kernel_rfl)
theorem F_of (v:A) {r:R} (h:d v = some r):F v = some r:=join_of (fun L=>f_b (L 0) v) (d_cn v) h
noncomputable def spec (k:Nat):List AV→List Slot→Option Ans:=specS sh os (f k)
theorem spec_ok (k:Nat):SpecOk Tryz.prog 102 (spec k):=specS_ok cs_ok Tryz.func102 rfl rfl (fun _ _=>held_eq _) k
end g34
noncomputable def tg34:=tg33.cons 102 g34.spec g34.spec_ok
namespace g35 -- prop_CheckNight
abbrev R:Type:=Int
abbrev A:Type:=Int × Int × Int × Int × Int × Int × Int × Int × Int × Int × Int × Int × Int × Int × Int × Int × List Int
abbrev Y:=A→Option R
def lv:List (Nat × List Nat):=[(2000000,[2]),(17,[81,82,83])]
noncomputable def cs:Nat→Ctx:=ctxOf tis modes tg34.1 lv
theorem cs_ok (n:Nat):CtxOk Tryz.prog (cs n):=ctxOf_ok rfl tis_ok tg34.2 n
def sh:AS:=⟨[(.agg [.int .i64,.int .i64,.int .i64,.int .i64,.int .i64,.int .i64,.int .i64,.int .i64,.int .i64,.int .i64,.int .i64,.int .i64,.int .i64,.int .i64,.int .i64,.int .i64,.frz (.int .i64)])],[]⟩
def os:OS:=⟨.c (.int .i64),[]⟩
def enc (r:R):Out:=os.enc r
def dec:Out→Option R:=os.dec
noncomputable def b0:Code:=subF [] Tryz.f79
noncomputable def K0 (k:Nat):Kt R:=kTop (cs k) Tryz.f79 dec
noncomputable def b17:Code:=sub [1,1,1,1,1,1,1,1,0,1,0,0] b0
noncomputable def K17 ( k:Nat):Kt R:=kAt (cs k) (loopN cs k) [1,1,1,1,1,1,1,1,0,1,0] b0 (K0 k)
abbrev T0:Type:=List Int × Int × Int
abbrev Y0:=T0→Option R
def s0:T0→St:=fun (a,b,e)=>⟨91,0,[(81,.c (.frz (.int .i64) a)),(82,.c (.int .i64 b)),(83,.c (.int .i64 e))],[],[(256000000,.gone)]⟩
noncomputable def l0 ( k n:Nat) (v:T0):Option R:=held (loopN cs n b17 (K17 k) (s0 v))
noncomputable def D0 (v:T0):Option R:=lim fun L=>l0 (L 0) (L 1) v
theorem D0_cn (v:T0):Cn late (D0 v) fun L=>l0 (L 0) (L 1) v:=of_lim
def d0 (p0:g12.Y) (p1:Y0):Y0:=fun (a,b,e) =>
br (decide (e < b)) (br (decide (0 ≤ e ∧ e < (↑a.length:Int))) (bnd (p0 (rd (Ty.int .i64) a e,0,4)) fun r=>br (!r) (some 4) (p1 (a,b,wrap .i64 (e + 1)))) none) (some 0)
theorem d0_cn (k0:Pr E g12.A g12.R) (k1:Pr E T0 R):∀ v:T0,Cn E (d0 k0.p k1.p v) fun i=>d0 (k0.q i) (k1.q i) v:=fun (a,b,e)=>(.br (.br (.bnd (k0.h _) fun _=>(.br .some (k1.h _))) .none) .some)
theorem l0_b ( k m1:Nat):∀ v:T0,run (cs m1) (loopN cs m1) b17 (kLoop cs m1 b17 (K17 k)) (s0 v) = d0 (g12.f m1) (l0 k m1) v:=fun (a,b,e)=>by kernel_rfl
theorem D0_of (v:T0) {r:R} (h:d0 g12.F D0 v = some r):D0 v = some r:=loop_of 1 (fun L n hn=>by show l0 (L 0) (L 1) v = _; rw [hn]; exact (held_eq _).trans ((loopN_succ _ _ _ _ _).trans (l0_b (L 0) n v))) (d0_cn (lp g12.f 1) (.mk fun v=>(D0_cn v).re [0,1]) v) h
noncomputable def f (k:Nat):Y:=fun v=>held (runFn cs k Tryz.f79 (sh.args v) (sh.slots v) dec)
noncomputable def F:Y:=lm f
noncomputable def d (p0:g12.Y) (p1:g33.Y) (p2:g34.Y) (p3:Y0):Y:=fun (a,b,e,j,l,m,o,s,t,u,w,x,y,z,B,C,D) =>
bnd (p0 (t,1,64)) fun r=>br (!r || decide (s < 60000) || decide (1800000 < s)) (some 4) (br (decide (o < -8796093022208) || decide (8796093022208 < o)) (some 4) (br (decide (a < -1073741824) || decide (1073741824 < a) || decide (b < 0) || decide (4294967296 ≤ b)) (some 4) (bnd (p1 (e,j,l,m)) fun r=>br (!decide (r = 0)) (some r) (bnd (p2 (u,w,x)) fun r=>br ((!decide (r = 0)) == false) (bnd (p2 (y,z,B)) fun r=>br (!decide (r = 0)) (some 3) (br (decide (C < -1073741824) || decide (0 < C)) (some 4) (br (!decide ((↑D.length:Int) = t)) (some 3) (p3 (D,(↑D.length:Int),0))))) (some 3)))))
theorem d_cn (k0:Pr E g12.A g12.R) (k1:Pr E g33.A g33.R) (k2:Pr E g34.A g34.R) (k3:Pr E T0 R):∀ v:A,Cn E (d k0.p k1.p k2.p k3.p v) fun i=>d (k0.q i) (k1.q i) (k2.q i) (k3.q i) v:=fun (a,b,e,j,l,m,o,s,t,u,w,x,y,z,B,C,D)=>(.bnd (k0.h _) fun _=>(.br .some (.br .some (.br .some (.bnd (k1.h _) fun _=>(.br .some (.bnd (k2.h _) fun _=>(.br (.bnd (k2.h _) fun _=>(.br .some (.br .some (.br .some (k3.h _))))) .some))))))))
theorem f_b (k:Nat):∀ v:A,f k v = d (g12.f k) (g33.f k) (g34.f k) (l0 k k) v:=fun (a,b,e,j,l,m,o,s,t,u,w,x,y,z,B,C,D)=>(held_eq _).trans (by kernel_rfl)
theorem F_of (v:A) {r:R} (h:d g12.F g33.F g34.F D0 v = some r):F v = some r:=join_of (fun L=>f_b (L 0) v) (d_cn (lp g12.f 0) (lp g33.f 0) (lp g34.f 0) (.mk fun v=>(D0_cn v).re [0,0]) v) h
noncomputable def spec (k:Nat):List AV→List Slot→Option Ans:=specS sh os (f k)
theorem spec_ok (k:Nat):SpecOk Tryz.prog 79 (spec k):=specS_ok cs_ok Tryz.func79 rfl rfl (fun _ _=>held_eq _) k
end g35
noncomputable def tg35:=tg34.cons 79 g35.spec g35.spec_ok
namespace g36 -- slew_CheckAxis
abbrev R:Type:=Int
abbrev A:Type:=Int × Int × Int × Int
abbrev Y:=A→Option R
def lv:List (Nat × List Nat):=[(2000000,[2])]
noncomputable def cs:Nat→Ctx:=ctxOf tis modes tg35.1 lv
theorem cs_ok (n:Nat):CtxOk Tryz.prog (cs n):=ctxOf_ok rfl tis_ok tg35.2 n
def sh:AS:=⟨[(.agg [.int .i64,.int .i64,.int .i64,.int .i64])],[]⟩
def os:OS:=⟨.c (.int .i64),[]⟩
def enc (r:R):Out:=os.enc r
def dec:Out→Option R:=os.dec
noncomputable def b0:Code:=subF [] Tryz.f115
noncomputable def K0 (k:Nat):Kt R:=kTop (cs k) Tryz.f115 dec
noncomputable def f (k:Nat):Y:=fun v=>held (runFn cs k Tryz.f115 (sh.args v) (sh.slots v) dec)
noncomputable def F:Y:=lm f
def d:Y:=fun (a,b,e,j) =>
br (decide (a < -17179869184) || decide (17179869184 < b)) (some 4) (br (decide (b < a)) (some 11) (br (decide (e < 16777216) || decide (1073741824 < e) || decide (e < j) || decide (j < 1) || decide (wrap .i64 (j * 64) < e)) (some 4) (some 0)))
theorem d_cn:∀ v:A,Cn E (d v) fun i=>d v:=fun (a,b,e,j)=>(.br .some (.br .some (.br .some .some)))
theorem f_b (k:Nat):∀ v:A,f k v = d v:=fun (a,b,e,j)=>(held_eq _).trans (by kernel_rfl)
theorem F_of (v:A) {r:R} (h:d v = some r):F v = some r:=join_of (fun L=>f_b (L 0) v) (d_cn v) h
noncomputable def spec (k:Nat):List AV→List Slot→Option Ans:=specS sh os (f k)
theorem spec_ok (k:Nat):SpecOk Tryz.prog 115 (spec k):=specS_ok cs_ok Tryz.func115 rfl rfl (fun _ _=>held_eq _) k
end g36
noncomputable def tg36:=tg35.cons 115 g36.spec g36.spec_ok
namespace g37 -- slew_In
abbrev R:Type:=Bool
abbrev A:Type:=Int × Int × Int × Int × Int
abbrev Y:=A→Option R
def lv:List (Nat × List Nat):=[(2000000,[4])]
noncomputable def cs:Nat→Ctx:=ctxOf tis modes tg36.1 lv
theorem cs_ok (n:Nat):CtxOk Tryz.prog (cs n):=ctxOf_ok rfl tis_ok tg36.2 n
def sh:AS:=⟨[.agg [.int .i64,.int .i64,.int .i64,.int .i64],.c (.int .i64)],[]⟩
def os:OS:=⟨.c .bool,[]⟩
def enc (r:R):Out:=os.enc r
def dec:Out→Option R:=os.dec
noncomputable def b0:Code:=subF [] Tryz.f57
noncomputable def K0 (k:Nat):Kt R:=kTop (cs k) Tryz.f57 dec
noncomputable def f (k:Nat):Y:=fun v=>held (runFn cs k Tryz.f57 (sh.args v) (sh.slots v) dec)
noncomputable def F:Y:=lm f
def d:Y:=fun (a,b,e,j,l) =>
some (decide (a ≤ l) && decide (l ≤ b))
theorem d_cn:∀ v:A,Cn E (d v) fun i=>d v:=fun (a,b,e,j,l)=>.some
theorem f_b (k:Nat):∀ v:A,f k v = d v:=fun (a,b,e,j,l)=>(held_eq _).trans (by kernel_rfl)
theorem F_of (v:A) {r:R} (h:d v = some r):F v = some r:=join_of (fun L=>f_b (L 0) v) (d_cn v) h
noncomputable def spec (k:Nat):List AV→List Slot→Option Ans:=specS sh os (f k)
theorem spec_ok (k:Nat):SpecOk Tryz.prog 57 (spec k):=specS_ok cs_ok Tryz.func57 rfl rfl (fun _ _=>held_eq _) k
end g37
noncomputable def tg37:=tg36.cons 57 g37.spec g37.spec_ok
namespace g38 -- slew_CheckMount
abbrev R:Type:=Int
abbrev A:Type:=Int × Int × Int × Int × Int × Int × Int × Int × Int × Int
abbrev Y:=A→Option R
def lv:List (Nat × List Nat):=[(2000000,[2])]
noncomputable def cs:Nat→Ctx:=ctxOf tis modes tg37.1 lv
theorem cs_ok (n:Nat):CtxOk Tryz.prog (cs n):=ctxOf_ok rfl tis_ok tg37.2 n
def sh:AS:=⟨[(.agg [.int .i64,.int .i64,.int .i64,.int .i64,.int .i64,.int .i64,.int .i64,.int .i64,.int .i64,.int .i64])],[]⟩
def os:OS:=⟨.c (.int .i64),[]⟩
def enc (r:R):Out:=os.enc r
def dec:Out→Option R:=os.dec
noncomputable def b0:Code:=subF [] Tryz.f87
noncomputable def K0 (k:Nat):Kt R:=kTop (cs k) Tryz.f87 dec
noncomputable def f (k:Nat):Y:=fun v=>held (runFn cs k Tryz.f87 (sh.args v) (sh.slots v) dec)
noncomputable def F:Y:=lm f
def d (p0:g36.Y) (p1:g37.Y):Y:=fun (a,b,e,j,l,m,o,s,t,u) =>
bnd (p0 (a,b,e,j)) fun r=>br (!decide (r = 0)) (some r) (bnd (p0 (l,m,o,s)) fun r=>br (!decide (r = 0)) (some r) (bnd (p1 (a,b,e,j,t)) fun r=>br ((!r) == false) (bnd (p1 (l,m,o,s,u)) fun r=>br (!r) (some 4) (some 0)) (some 4)))
theorem d_cn (k0:Pr E g36.A g36.R) (k1:Pr E g37.A g37.R):∀ v:A,Cn E (d k0.p k1.p v) fun i=>d (k0.q i) (k1.q i) v:=fun (a,b,e,j,l,m,o,s,t,u)=>(.bnd (k0.h _) fun _=>(.br .some (.bnd (k0.h _) fun _=>(.br .some (.bnd (k1.h _) fun _=>(.br (.bnd (k1.h _) fun _=>(.br .some .some)) .some))))))
theorem f_b (k:Nat):∀ v:A,f k v = d (g36.f k) (g37.f k) v:=fun (a,b,e,j,l,m,o,s,t,u)=>(held_eq _).trans (by kernel_rfl)
theorem F_of (v:A) {r:R} (h:d g36.F g37.F v = some r):F v = some r:=join_of (fun L=>f_b (L 0) v) (d_cn (lp g36.f 0) (lp g37.f 0) v) h
noncomputable def spec (k:Nat):List AV→List Slot→Option Ans:=specS sh os (f k)
theorem spec_ok (k:Nat):SpecOk Tryz.prog 87 (spec k):=specS_ok cs_ok Tryz.func87 rfl rfl (fun _ _=>held_eq _) k
end g38
noncomputable def tg38:=tg37.cons 87 g38.spec g38.spec_ok
namespace g39 -- prop_Name
abbrev R:Type:=Bool
abbrev A:Type:=ByteArray
abbrev Y:=A→Option R
def lv:List (Nat × List Nat):=[(2000000,[2]),(4,[0,3])]
noncomputable def cs:Nat→Ctx:=ctxOf tis modes tg38.1 lv
theorem cs_ok (n:Nat):CtxOk Tryz.prog (cs n):=ctxOf_ok rfl tis_ok tg38.2 n
def sh:AS:=⟨[(.c .str)],[]⟩
def os:OS:=⟨.c .bool,[]⟩
def enc (r:R):Out:=os.enc r
def dec:Out→Option R:=os.dec
noncomputable def b0:Code:=subF [] Tryz.f129
noncomputable def K0 (k:Nat):Kt R:=kTop (cs k) Tryz.f129 dec
noncomputable def b4:Code:=sub [1,1,0,1,0,0] b0
noncomputable def K4 ( k:Nat):Kt R:=kAt (cs k) (loopN cs k) [1,1,0,1,0] b0 (K0 k)
abbrev T0:Type:=ByteArray × Int
abbrev Y0:=T0→Option R
def s0:T0→St:=fun (a,b)=>⟨47,0,[(0,.c (.str a)),(3,.c (.int .i64 b))],[],[(256000000,.gone)]⟩
noncomputable def l0 ( k n:Nat) (v:T0):Option R:=held (loopN cs n b4 (K4 k) (s0 v))
noncomputable def D0 (v:T0):Option R:=lim fun L=>l0 (L 0) (L 1) v
theorem D0_cn (v:T0):Cn late (D0 v) fun L=>l0 (L 0) (L 1) v:=of_lim
def d0 (p0:Y0):Y0:=fun (a,b) =>
br (decide (b < (↑a.size:Int))) (br (decide (0 ≤ b ∧ b < (↑a.size:Int))) (br (!(decide (97 ≤ (↑(a.data.getD b.toNat 0).toNat:Int)) && decide ((↑(a.data.getD b.toNat 0).toNat:Int) ≤ 122)) && (decide (b = 0) || (decide ((↑(a.data.getD b.toNat 0).toNat:Int) < 48) || decide (57 < (↑(a.data.getD b.toNat 0).toNat:Int))) && !decide ((↑(a.data.getD b.toNat 0).toNat:Int) = 45))) (some false) (p0 (a,wrap .i64 (b + 1)))) none) (some true)
theorem d0_cn (k0:Pr E T0 R):∀ v:T0,Cn E (d0 k0.p v) fun i=>d0 (k0.q i) v:=fun (a,b)=>(.br (.br (.br .some (k0.h _)) .none) .some)
theorem l0_b ( k m1:Nat):∀ v:T0,run (cs m1) (loopN cs m1) b4 (kLoop cs m1 b4 (K4 k)) (s0 v) = d0 (l0 k m1) v:=fun (a,b)=>by kernel_rfl
theorem D0_of (v:T0) {r:R} (h:d0 D0 v = some r):D0 v = some r:=loop_of 1 (fun L n hn=>by show l0 (L 0) (L 1) v = _; rw [hn]; exact (held_eq _).trans ((loopN_succ _ _ _ _ _).trans (l0_b (L 0) n v))) (d0_cn (.mk fun v=>(D0_cn v).re [0,1]) v) h
noncomputable def f (k:Nat):Y:=fun v=>held (runFn cs k Tryz.f129 (sh.args v) (sh.slots v) dec)
noncomputable def F:Y:=lm f
def d (p0:Y0):Y:=fun a =>
br (decide ((↑a.size:Int) = 0) || decide (12 < (↑a.size:Int))) (some false) (p0 (a,0))
theorem d_cn (k0:Pr E T0 R):∀ v:A,Cn E (d k0.p v) fun i=>d (k0.q i) v:=fun a=>(.br .some (k0.h _))
theorem f_b (k:Nat):∀ v:A,f k v = d (l0 k k) v:=fun a=>(held_eq _).trans (by kernel_rfl)
theorem F_of (v:A) {r:R} (h:d D0 v = some r):F v = some r:=join_of (fun L=>f_b (L 0) v) (d_cn (.mk fun v=>(D0_cn v).re [0,0]) v) h
noncomputable def spec (k:Nat):List AV→List Slot→Option Ans:=specS sh os (f k)
theorem spec_ok (k:Nat):SpecOk Tryz.prog 129 (spec k):=specS_ok cs_ok Tryz.func129 rfl rfl (fun _ _=>held_eq _) k
end g39
noncomputable def tg39:=tg38.cons 129 g39.spec g39.spec_ok
namespace g40 -- prop_CheckProposal
abbrev R:Type:=Int
abbrev A:Type:=ByteArray × Int
abbrev Y:=A→Option R
def lv:List (Nat × List Nat):=[(2000000,[2])]
noncomputable def cs:Nat→Ctx:=ctxOf tis modes tg39.1 lv
theorem cs_ok (n:Nat):CtxOk Tryz.prog (cs n):=ctxOf_ok rfl tis_ok tg39.2 n
def sh:AS:=⟨[(.agg [.str,.int .i64])],[]⟩
def os:OS:=⟨.c (.int .i64),[]⟩
def enc (r:R):Out:=os.enc r
def dec:Out→Option R:=os.dec
noncomputable def b0:Code:=subF [] Tryz.f92
noncomputable def K0 (k:Nat):Kt R:=kTop (cs k) Tryz.f92 dec
noncomputable def f (k:Nat):Y:=fun v=>held (runFn cs k Tryz.f92 (sh.args v) (sh.slots v) dec)
noncomputable def F:Y:=lm f
def d (p0:g39.Y) (p1:g12.Y):Y:=fun (a,b) =>
bnd (p0 a) fun r=>br (!r) (some 6) (bnd (p1 (b,1,100)) fun r=>br (!r) (some 4) (some 0))
theorem d_cn (k0:Pr E g39.A g39.R) (k1:Pr E g12.A g12.R):∀ v:A,Cn E (d k0.p k1.p v) fun i=>d (k0.q i) (k1.q i) v:=fun (a,b)=>(.bnd (k0.h _) fun _=>(.br .some (.bnd (k1.h _) fun _=>(.br .some .some))))
theorem f_b (k:Nat):∀ v:A,f k v = d (g39.f k) (g12.f k) v:=fun (a,b)=>(held_eq _).trans (by kernel_rfl)
theorem F_of (v:A) {r:R} (h:d g39.F g12.F v = some r):F v = some r:=join_of (fun L=>f_b (L 0) v) (d_cn (lp g39.f 0) (lp g12.f 0) v) h
noncomputable def spec (k:Nat):List AV→List Slot→Option Ans:=specS sh os (f k)
theorem spec_ok (k:Nat):SpecOk Tryz.prog 92 (spec k):=specS_ok cs_ok Tryz.func92 rfl rfl (fun _ _=>held_eq _) k
end g40
noncomputable def tg40:=tg39.cons 92 g40.spec g40.spec_ok
namespace g41 -- prop_CheckRequest
abbrev R:Type:=Int
abbrev A:Type:=Int × Int × Int × Int × Int × Int × Int × Int × Int × Int × Int × Int × Int
abbrev Y:=A→Option R
def lv:List (Nat × List Nat):=[(2000000,[2]),(1000012,[1])]
noncomputable def cs:Nat→Ctx:=ctxOf tis modes tg40.1 lv
theorem cs_ok (n:Nat):CtxOk Tryz.prog (cs n):=ctxOf_ok rfl tis_ok tg40.2 n
def sh:AS:=⟨[(.agg [.int .i64,.int .i64,.int .i64,.int .i64,.int .i64,.int .i64,.int .i64,.int .i64,.int .i64,.int .i64,.int .i64,.int .i64,.int .i64])],[]⟩
def os:OS:=⟨.c (.int .i64),[]⟩
def enc (r:R):Out:=os.enc r
def dec:Out→Option R:=os.dec
noncomputable def b0:Code:=subF [] Tryz.f80
noncomputable def K0 (k:Nat):Kt R:=kTop (cs k) Tryz.f80 dec
noncomputable def c1000012:Code:=sub [1,1,1,1,1] b0
noncomputable def J1000012 ( k:Nat):Kt R:=kAt (cs k) (loopN cs k) [1,1,1,1,1] b0 (K0 k)
abbrev T0:Type:=Int × Int × Int × Int × Int × Int × Int × Int × Int × Int × Int × Int × Int
abbrev Y0:=T0→Option R
def s0:T0→St:=fun (a,b,e,j,l,m,o,s,t,u,w,x,y)=>⟨72,0,[(1,.c (.ptr 64000000 0))],[],[(256000000,.gone),(64000000,.box [.int .i64 a,.int .i64 b,.int .i64 e,.int .i64 j,.int .i64 l,.int .i64 m,.int .i64 o,.int .i64 s,.int .i64 t,.int .i64 u,.int .i64 w,.int .i64 x,.int .i64 y])]⟩
noncomputable def l0 ( k:Nat) (v:T0):Option R:=held (run (cs k) (loopN cs k) c1000012 (J1000012 k) (s0 v))
noncomputable def D0 (v:T0):Option R:=lim fun L=>l0 (L 0) v
theorem D0_cn (v:T0):Cn late (D0 v) fun L=>l0 (L 0) v:=of_lim
def d0 (p0:g12.Y):Y0:=fun (a,b,e,j,l,m,o,s,t,u,w,x,y) =>
br (decide (u < -1073741824) || decide (1073741824 < u) || decide (w < -1073741824) || decide (1073741824 < w)) (some 4) (bnd (p0 (x,0,4)) fun r=>br ((!r) == false) (bnd (p0 (y,1,100)) fun r=>br (!r) (some 4) (some 0)) (some 4))
theorem d0_cn (k0:Pr E g12.A g12.R):∀ v:T0,Cn E (d0 k0.p v) fun i=>d0 (k0.q i) v:=fun (a,b,e,j,l,m,o,s,t,u,w,x,y)=>(.br .some (.bnd (k0.h _) fun _=>(.br (.bnd (k0.h _) fun _=>(.br .some .some)) .some)))
theorem l0_b ( k:Nat):∀ v:T0,run (cs k) (loopN cs k) c1000012 (J1000012 k) (s0 v) = d0 (g12.f k) v:=fun (a,b,e,j,l,m,o,s,t,u,w,x,y)=>by kernel_rfl
theorem D0_of (v:T0) {r:R} (h:d0 g12.F v = some r):D0 v = some r:=join_of (fun L=>(held_eq _).trans (l0_b (L 0) v)) (d0_cn (lp g12.f 0) v) h
noncomputable def f (k:Nat):Y:=fun v=>held (runFn cs k Tryz.f80 (sh.args v) (sh.slots v) dec)
noncomputable def F:Y:=lm f
def d (p0:g12.Y) (p1:g34.Y) (p2:Y0):Y:=fun (a,b,e,j,l,m,o,s,t,u,w,x,y) =>
bnd (p0 (a,1,999999)) fun r=>br (!r) (some 4) (bnd (p1 (e,j,l)) fun r=>br (!decide (r = 0)) (some 3) (bnd (p0 (m,1,8)) fun r=>br ((!r) == false) (bnd (p0 (o,1,4)) fun r=>br (!r) (some 4) (br (decide (o = 1)) (br (!decide (s = 0) || !decide (t = 0)) (some 3) (p2 (a,b,e,j,l,m,o,s,t,u,w,x,y))) (bnd (p0 (s,1,64)) fun r=>br ((!r) == false) (bnd (p0 (t,s,64)) fun r=>br (!r) (some 4) (p2 (a,b,e,j,l,m,o,s,t,u,w,x,y))) (some 4)))) (some 4)))
theorem d_cn (k0:Pr E g12.A g12.R) (k1:Pr E g34.A g34.R) (k2:Pr E T0 R):∀ v:A,Cn E (d k0.p k1.p k2.p v) fun i=>d (k0.q i) (k1.q i) (k2.q i) v:=fun (a,b,e,j,l,m,o,s,t,u,w,x,y)=>(.bnd (k0.h _) fun _=>(.br .some (.bnd (k1.h _) fun _=>(.br .some (.bnd (k0.h _) fun _=>(.br (.bnd (k0.h _) fun _=>(.br .some (.br (.br .some (k2.h _)) (.bnd (k0.h _) fun _=>(.br (.bnd (k0.h _) fun _=>(.br .some (k2.h _))) .some))))) .some))))))
theorem f_b (k:Nat):∀ v:A,f k v = d (g12.f k) (g34.f k) (l0 k) v:=fun (a,b,e,j,l,m,o,s,t,u,w,x,y)=>(held_eq _).trans (by kernel_rfl)
theorem F_of (v:A) {r:R} (h:d g12.F g34.F D0 v = some r):F v = some r:=join_of (fun L=>f_b (L 0) v) (d_cn (lp g12.f 0) (lp g34.f 0) (.mk fun v=>(D0_cn v).re [0]) v) h
noncomputable def spec (k:Nat):List AV→List Slot→Option Ans:=specS sh os (f k)
theorem spec_ok (k:Nat):SpecOk Tryz.prog 80 (spec k):=specS_ok cs_ok Tryz.func80 rfl rfl (fun _ _=>held_eq _) k
end g41
noncomputable def tg41:=tg40.cons 80 g41.spec g41.spec_ok
namespace g42 -- prop_Check
abbrev R:Type:=Int
abbrev A:Type:=List (ByteArray × Int) × List (Int × Int × (Int × Int × Int) × Int × Int × Int × Int × Int × Int × Int × Int)
abbrev Y:=A→Option R
def lv:List (Nat × List Nat):=[(2000000,[2]),(5,[1,3,23,24,25]),(16,[1,7,44,45,46])]
noncomputable def cs:Nat→Ctx:=ctxOf tis modes tg41.1 lv
theorem cs_ok (n:Nat):CtxOk Tryz.prog (cs n):=ctxOf_ok rfl tis_ok tg41.2 n
def sh:AS:=⟨[(.agg [.frz y19,.frz y27])],[]⟩
def os:OS:=⟨.c (.int .i64),[]⟩
def enc (r:R):Out:=os.enc r
def dec:Out→Option R:=os.dec
noncomputable def b0:Code:=subF [] Tryz.f65
noncomputable def K0 (k:Nat):Kt R:=kTop (cs k) Tryz.f65 dec
noncomputable def b5:Code:=sub [1,1,1,0,1,0,0] b0
noncomputable def K5 ( k:Nat):Kt R:=kAt (cs k) (loopN cs k) [1,1,1,0,1,0] b0 (K0 k)
noncomputable def b16:Code:=sub [1,1,1,1,1,0,1,0,0] b0
noncomputable def K16 ( k:Nat):Kt R:=kAt (cs k) (loopN cs k) [1,1,1,1,1,0,1,0] b0 (K0 k)
abbrev T0:Type:=List (ByteArray × Int) × Int × Int × List (ByteArray × Int) × List (Int × Int × (Int × Int × Int) × Int × Int × Int × Int × Int × Int × Int × Int) × List (ByteArray × Bool × Int) × Int
abbrev Y0:=T0→Option R
def s0:T0→St:=fun (a,b,e,j,l,m,o)=>⟨71,0,[(1,.c (.ptr 64000000 0)),(3,.c (.map 64000001)),(23,.c (.frz y19 a)),(24,.c (.int .i64 b)),(25,.c (.int .i64 e))],[],[(256000000,.gone),(64000000,.box [.frz y19 j,.frz y27 l]),(64000001,.mp .str .bool m o)]⟩
noncomputable def l0 ( k n:Nat) (v:T0):Option R:=held (loopN cs n b5 (K5 k) (s0 v))
noncomputable def D0 (v:T0):Option R:=lim fun L=>l0 (L 0) (L 1) v
theorem D0_cn (v:T0):Cn late (D0 v) fun L=>l0 (L 0) (L 1) v:=of_lim
abbrev T1:Type:=List (Int × Int × (Int × Int × Int) × Int × Int × Int × Int × Int × Int × Int × Int) × Int × Int × List (ByteArray × Int) × List (Int × Int × (Int × Int × Int) × Int × Int × Int × Int × Int × Int × Int × Int) × List (Int × Bool × Int) × Int
abbrev Y1:=T1→Option R
def s1:T1→St:=fun (a,b,e,j,l,m,o)=>⟨71,0,[(1,.c (.ptr 64000000 0)),(7,.c (.map 64000001)),(44,.c (.frz y27 a)),(45,.c (.int .i64 b)),(46,.c (.int .i64 e))],[],[(256000000,.gone),(64000000,.box [.frz y19 j,.frz y27 l]),(64000001,.mp (.int .i64) .bool m o)]⟩
noncomputable def l1 ( k n:Nat) (v:T1):Option R:=held (loopN cs n b16 (K16 k) (s1 v))
noncomputable def D1 (v:T1):Option R:=lim fun L=>l1 (L 0) (L 1) v
theorem D1_cn (v:T1):Cn late (D1 v) fun L=>l1 (L 0) (L 1) v:=of_lim
def d0 (p0:g40.Y) (p1:Y0) (p2:Y1):Y0:=fun (a,b,e,j,l,m,o) =>
br (decide (e < b)) (br (decide (0 ≤ e ∧ e < (↑a.length:Int))) (bnd (p0 ((rd (Ty.str.pair (Ty.int .i64)) a e).1,(rd (Ty.str.pair (Ty.int .i64)) a e).2)) fun r=>br (!decide (r = 0)) (some r) (br (mGet Ty.str Ty.bool m (rd (Ty.str.pair (Ty.int .i64)) a e).1) (some 7) (p1 (a,b,wrap .i64 (e + 1),j,l,mPut Ty.str Ty.bool m o (rd (Ty.str.pair (Ty.int .i64)) a e).1 true,mClk Ty.str Ty.bool m o (rd (Ty.str.pair (Ty.int .i64)) a e).1)))) none) (p2 (l,(↑l.length:Int),0,j,l,[],0))
theorem d0_cn (k0:Pr E g40.A g40.R) (k1:Pr E T0 R) (k2:Pr E T1 R):∀ v:T0,Cn E (d0 k0.p k1.p k2.p v) fun i=>d0 (k0.q i) (k1.q i) (k2.q i) v:=fun (a,b,e,j,l,m,o)=>(.br (.br (.bnd (k0.h _) fun _=>(.br .some (.br .some (k1.h _)))) .none) (k2.h _))
theorem l0_b ( k m1:Nat):∀ v:T0,run (cs m1) (loopN cs m1) b5 (kLoop cs m1 b5 (K5 k)) (s0 v) = d0 (g40.f m1) (l0 k m1) (l1 k k) v:=fun (a,b,e,j,l,m,o)=>by kernel_rfl
theorem D0_of (v:T0) {r:R} (h:d0 g40.F D0 D1 v = some r):D0 v = some r:=loop_of 1 (fun L n hn=>by show l0 (L 0) (L 1) v = _; rw [hn]; exact (held_eq _).trans ((loopN_succ _ _ _ _ _).trans (l0_b (L 0) n v))) (d0_cn (lp g40.f 1) (.mk fun v=>(D0_cn v).re [0,1]) (.mk fun v=>(D1_cn v).re [0,0]) v) h
noncomputable def d1 (p0:g41.Y) (p1:g12.Y) (p2:Y1):Y1:=fun (a,b,e,j,l,m,o) =>
br (decide (e < b)) (br (decide (0 ≤ e ∧ e < (↑a.length:Int))) (bnd (p0 ((rd ty0 a e).1,(rd ty0 a e).2.1,(rd ty0 a e).2.2.1.1,(rd ty0 a e).2.2.1.2.1,(rd ty0 a e).2.2.1.2.2,(rd ty0 a e).2.2.2.1,(rd ty0 a e).2.2.2.2.1,(rd ty0 a e).2.2.2.2.2.1,(rd ty0 a e).2.2.2.2.2.2.1,(rd ty0 a e).2.2.2.2.2.2.2.1,(rd ty0 a e).2.2.2.2.2.2.2.2.1,(rd ty0 a e).2.2.2.2.2.2.2.2.2.1,(rd ty0 a e).2.2.2.2.2.2.2.2.2.2)) fun r=>br (!decide (r = 0)) (some r) (br (mGet (Ty.int .i64) Ty.bool m (rd ty0 a e).1) (some 7) (bnd (p1 ((rd ty0 a e).2.1,0,wrap .i64 ((↑j.length:Int) - 1))) fun r=>br (!r) (some 8) (p2 (a,b,wrap .i64 (e + 1),j,l,mPut (Ty.int .i64) Ty.bool m o (rd ty0 a e).1 true,mClk (Ty.int .i64) Ty.bool m o (rd ty0 a e).1))))) none) (some 0)
theorem d1_cn (k0:Pr E g41.A g41.R) (k1:Pr E g12.A g12.R) (k2:Pr E T1 R):∀ v:T1,Cn E (d1 k0.p k1.p k2.p v) fun i=>d1 (k0.q i) (k1.q i) (k2.q i) v:=fun (a,b,e,j,l,m,o)=>(.br (.br (.bnd (k0.h _) fun _=>(.br .some (.br .some (.bnd (k1.h _) fun _=>(.br .some (k2.h _)))))) .none) .some)
theorem l1_b ( k m1:Nat):∀ v:T1,run (cs m1) (loopN cs m1) b16 (kLoop cs m1 b16 (K16 k)) (s1 v) = d1 (g41.f m1) (g12.f m1) (l1 k m1) v:=fun (a,b,e,j,l,m,o)=>by kernel_rfl
theorem D1_of (v:T1) {r:R} (h:d1 g41.F g12.F D1 v = some r):D1 v = some r:=loop_of 1 (fun L n hn=>by show l1 (L 0) (L 1) v = _; rw [hn]; exact (held_eq _).trans ((loopN_succ _ _ _ _ _).trans (l1_b (L 0) n v))) (d1_cn (lp g41.f 1) (lp g12.f 1) (.mk fun v=>(D1_cn v).re [0,1]) v) h
noncomputable def f (k:Nat):Y:=fun v=>held (runFn cs k Tryz.f65 (sh.args v) (sh.slots v) dec)
noncomputable def F:Y:=lm f
def d (p0:Y0):Y:=fun (a,b) =>
br (decide (6 < (↑a.length:Int)) || decide (16 < (↑b.length:Int))) (some 2) (p0 (a,(↑a.length:Int),0,a,b,[],0))
theorem d_cn (k0:Pr E T0 R):∀ v:A,Cn E (d k0.p v) fun i=>d (k0.q i) v:=fun (a,b)=>(.br .some (k0.h _))
theorem f_b (k:Nat):∀ v:A,f k v = d (l0 k k) v:=fun (a,b)=>(held_eq _).trans (by kernel_rfl)
theorem F_of (v:A) {r:R} (h:d D0 v = some r):F v = some r:=join_of (fun L=>f_b (L 0) v) (d_cn (.mk fun v=>(D0_cn v).re [0,0]) v) h
noncomputable def spec (k:Nat):List AV→List Slot→Option Ans:=specS sh os (f k)
theorem spec_ok (k:Nat):SpecOk Tryz.prog 65 (spec k):=specS_ok cs_ok Tryz.func65 rfl rfl (fun _ _=>held_eq _) k
end g42
noncomputable def tg42:=tg41.cons 65 g42.spec g42.spec_ok
namespace g43 -- plan_CheckAll
abbrev R:Type:=Int
abbrev A:Type:=Int × Int × Int × Int × Int × Int × Int × Int × Int × Int × Int × Int × Int × Int × Int × Int × List Int × Int × Int × Int × Int × Int × Int × Int × Int × Int × Int × List (ByteArray × Int) × List (Int × Int × (Int × Int × Int) × Int × Int × Int × Int × Int × Int × Int × Int)
abbrev Y:=A→Option R
def lv:List (Nat × List Nat):=[(2000000,[6])]
noncomputable def cs:Nat→Ctx:=ctxOf tis modes tg42.1 lv
theorem cs_ok (n:Nat):CtxOk Tryz.prog (cs n):=ctxOf_ok rfl tis_ok tg42.2 n
def sh:AS:=⟨[.agg [.int .i64,.int .i64,.int .i64,.int .i64,.int .i64,.int .i64,.int .i64,.int .i64,.int .i64,.int .i64,.int .i64,.int .i64,.int .i64,.int .i64,.int .i64,.int .i64,.frz (.int .i64)],.agg [.int .i64,.int .i64,.int .i64,.int .i64,.int .i64,.int .i64,.int .i64,.int .i64,.int .i64,.int .i64],.agg [.frz y19,.frz y27]],[]⟩
def os:OS:=⟨.c (.int .i64),[]⟩
def enc (r:R):Out:=os.enc r
def dec:Out→Option R:=os.dec
noncomputable def b0:Code:=subF [] Tryz.f58
noncomputable def K0 (k:Nat):Kt R:=kTop (cs k) Tryz.f58 dec
noncomputable def f (k:Nat):Y:=fun v=>held (runFn cs k Tryz.f58 (sh.args v) (sh.slots v) dec)
noncomputable def F:Y:=lm f
def d (p0:g35.Y) (p1:g38.Y) (p2:g42.Y):Y:=fun (a,b,e,j,l,m,o,s,t,u,w,x,y,z,B,C,D,G,H,I,J,K,P,N,O,T,S,Q,M) =>
bnd (p0 (a,b,e,j,l,m,o,s,t,u,w,x,y,z,B,C,D)) fun r=>br (!decide (r = 0)) (some r) (bnd (p1 (G,H,I,J,K,P,N,O,T,S)) fun r=>br (!decide (r = 0)) (some r) (bnd (p2 (Q,M)) fun r=>some r))
theorem d_cn (k0:Pr E g35.A g35.R) (k1:Pr E g38.A g38.R) (k2:Pr E g42.A g42.R):∀ v:A,Cn E (d k0.p k1.p k2.p v) fun i=>d (k0.q i) (k1.q i) (k2.q i) v:=fun (a,b,e,j,l,m,o,s,t,u,w,x,y,z,B,C,D,G,H,I,J,K,P,N,O,T,S,Q,M)=>(.bnd (k0.h _) fun _=>(.br .some (.bnd (k1.h _) fun _=>(.br .some (.bnd (k2.h _) fun _=>.some)))))
theorem f_b (k:Nat):∀ v:A,f k v = d (g35.f k) (g38.f k) (g42.f k) v:=fun (a,b,e,j,l,m,o,s,t,u,w,x,y,z,B,C,D,G,H,I,J,K,P,N,O,T,S,Q,M)=>(held_eq _).trans (by kernel_rfl)
theorem F_of (v:A) {r:R} (h:d g35.F g38.F g42.F v = some r):F v = some r:=join_of (fun L=>f_b (L 0) v) (d_cn (lp g35.f 0) (lp g38.f 0) (lp g42.f 0) v) h
noncomputable def spec (k:Nat):List AV→List Slot→Option Ans:=specS sh os (f k)
theorem spec_ok (k:Nat):SpecOk Tryz.prog 58 (spec k):=specS_ok cs_ok Tryz.func58 rfl rfl (fun _ _=>held_eq _) k
end g43
noncomputable def tg43:=tg42.cons 58 g43.spec g43.spec_ok
namespace g44 -- slices_Clone_int
abbrev R:Type:=List Int
abbrev A:Type:=List Int
abbrev Y:=A→Option R
def lv:List (Nat × List Nat):=[(2000000,[2])]
noncomputable def cs:Nat→Ctx:=ctxOf tis modes tg43.1 lv
theorem cs_ok (n:Nat):CtxOk Tryz.prog (cs n):=ctxOf_ok rfl tis_ok tg43.2 n
def sh:AS:=⟨[(.c (.frz (.int .i64)))],[]⟩
def os:OS:=⟨.c (.sl 128000000),[(.row (.int .i64))]⟩
def enc (r:R):Out:=os.enc r
def dec:Out→Option R:=os.dec
noncomputable def b0:Code:=subF [] Tryz.f59
noncomputable def K0 (k:Nat):Kt R:=kTop (cs k) Tryz.f59 dec
noncomputable def f (k:Nat):Y:=fun v=>held (runFn cs k Tryz.f59 (sh.args v) (sh.slots v) dec)
noncomputable def F:Y:=lm f
noncomputable def d:Y:=fun a =>
br (decide (a.length = 0)) (both (some []) (br (decide (0 + a.length ≤ 140737488355328 / 8)) (some ([] ++ a)) none)) (br (decide (0 + a.length ≤ 140737488355328 / 8)) (some ([] ++ a)) none)
theorem d_cn:∀ v:A,Cn E (d v) fun i=>d v:=fun a=>(.br (.both .some (.br .some .none)) (.br .some .none))
theorem f_b (k:Nat):∀ v:A,f k v = d v:=fun a=>(held_eq _).trans (by kernel_rfl)
theorem F_of (v:A) {r:R} (h:d v = some r):F v = some r:=join_of (fun L=>f_b (L 0) v) (d_cn v) h
noncomputable def spec (k:Nat):List AV→List Slot→Option Ans:=specS sh os (f k)
theorem spec_ok (k:Nat):SpecOk Tryz.prog 59 (spec k):=specS_ok cs_ok Tryz.func59 rfl rfl (fun _ _=>held_eq _) k
end g44
noncomputable def tg44:=tg43.cons 59 g44.spec g44.spec_ok
namespace g45 -- slices_Clone_Proposal
abbrev R:Type:=List (ByteArray × Int)
abbrev A:Type:=List (ByteArray × Int)
abbrev Y:=A→Option R
def lv:List (Nat × List Nat):=[(2000000,[2])]
noncomputable def cs:Nat→Ctx:=ctxOf tis modes tg44.1 lv
theorem cs_ok (n:Nat):CtxOk Tryz.prog (cs n):=ctxOf_ok rfl tis_ok tg44.2 n
def sh:AS:=⟨[(.c (.frz y19))],[]⟩
def os:OS:=⟨.c (.sl 128000000),[(.row y19)]⟩
def enc (r:R):Out:=os.enc r
def dec:Out→Option R:=os.dec
noncomputable def b0:Code:=subF [] Tryz.f50
noncomputable def K0 (k:Nat):Kt R:=kTop (cs k) Tryz.f50 dec
noncomputable def f (k:Nat):Y:=fun v=>held (runFn cs k Tryz.f50 (sh.args v) (sh.slots v) dec)
noncomputable def F:Y:=lm f
noncomputable def d:Y:=fun a =>
br (decide (a.length = 0)) (both (some []) (br (decide (0 + a.length ≤ 140737488355328 / 24)) (some ([] ++ a)) none)) (br (decide (0 + a.length ≤ 140737488355328 / 24)) (some ([] ++ a)) none)
theorem d_cn:∀ v:A,Cn E (d v) fun i=>d v:=fun a=>(.br (.both .some (.br .some .none)) (.br .some .none))
theorem f_b (k:Nat):∀ v:A,f k v = d v:=fun a=>(held_eq _).trans (by kernel_rfl)
theorem F_of (v:A) {r:R} (h:d v = some r):F v = some r:=join_of (fun L=>f_b (L 0) v) (d_cn v) h
noncomputable def spec (k:Nat):List AV→List Slot→Option Ans:=specS sh os (f k)
theorem spec_ok (k:Nat):SpecOk Tryz.prog 50 (spec k):=specS_ok cs_ok Tryz.func50 rfl rfl (fun _ _=>held_eq _) k
end g45
noncomputable def tg45:=tg44.cons 50 g45.spec g45.spec_ok
namespace g46 -- slices_Clone_Request
abbrev R:Type:=List (Int × Int × (Int × Int × Int) × Int × Int × Int × Int × Int × Int × Int × Int)
abbrev A:Type:=List (Int × Int × (Int × Int × Int) × Int × Int × Int × Int × Int × Int × Int × Int)
abbrev Y:=A→Option R
def lv:List (Nat × List Nat):=[(2000000,[2])]
noncomputable def cs:Nat→Ctx:=ctxOf tis modes tg45.1 lv
theorem cs_ok (n:Nat):CtxOk Tryz.prog (cs n):=ctxOf_ok rfl tis_ok tg45.2 n
def sh:AS:=⟨[(.c (.frz y27))],[]⟩
def os:OS:=⟨.c (.sl 128000000),[(.row y27)]⟩
def enc (r:R):Out:=os.enc r
def dec:Out→Option R:=os.dec
noncomputable def b0:Code:=subF [] Tryz.f51
noncomputable def K0 (k:Nat):Kt R:=kTop (cs k) Tryz.f51 dec
noncomputable def f (k:Nat):Y:=fun v=>held (runFn cs k Tryz.f51 (sh.args v) (sh.slots v) dec)
noncomputable def F:Y:=lm f
noncomputable def d:Y:=fun a =>
br (decide (a.length = 0)) (both (some []) (br (decide (0 + a.length ≤ 140737488355328 / 104)) (some ([] ++ a)) none)) (br (decide (0 + a.length ≤ 140737488355328 / 104)) (some ([] ++ a)) none)
theorem d_cn:∀ v:A,Cn E (d v) fun i=>d v:=fun a=>(.br (.both .some (.br .some .none)) (.br .some .none))
theorem f_b (k:Nat):∀ v:A,f k v = d v:=fun a=>(held_eq _).trans (by kernel_rfl)
theorem F_of (v:A) {r:R} (h:d v = some r):F v = some r:=join_of (fun L=>f_b (L 0) v) (d_cn v) h
noncomputable def spec (k:Nat):List AV→List Slot→Option Ans:=specS sh os (f k)
theorem spec_ok (k:Nat):SpecOk Tryz.prog 51 (spec k):=specS_ok cs_ok Tryz.func51 rfl rfl (fun _ _=>held_eq _) k
end g46
noncomputable def tg46:=tg45.cons 51 g46.spec g46.spec_ok
namespace g47 -- window_both
abbrev R:Type:=Int
abbrev A:Type:=Int × Int × Int × Int × Int × Int × Int × Int × Int × Int × Int × Int × Int × Int × Int × Int × List Int × Int × Int × Int × Int × Int × Int × Int × Int × Int × Int × Int × Int × Int
abbrev Y:=A→Option R
def lv:List (Nat × List Nat):=[(2000000,[4])]
noncomputable def cs:Nat→Ctx:=ctxOf tis modes tg46.1 lv
theorem cs_ok (n:Nat):CtxOk Tryz.prog (cs n):=ctxOf_ok rfl tis_ok tg46.2 n
def sh:AS:=⟨[.agg [.int .i64,.int .i64,.int .i64,.int .i64,.int .i64,.int .i64,.int .i64,.int .i64,.int .i64,.int .i64,.int .i64,.int .i64,.int .i64,.int .i64,.int .i64,.int .i64,.frz (.int .i64)],.agg [.int .i64,.int .i64,.int .i64,.int .i64,.int .i64,.int .i64,.int .i64,.int .i64,.int .i64,.int .i64,.int .i64,.int .i64,.int .i64]],[]⟩
def os:OS:=⟨.c (.int .i64),[]⟩
def enc (r:R):Out:=os.enc r
def dec:Out→Option R:=os.dec
noncomputable def b0:Code:=subF [] Tryz.f52
noncomputable def K0 (k:Nat):Kt R:=kTop (cs k) Tryz.f52 dec
noncomputable def f (k:Nat):Y:=fun v=>held (runFn cs k Tryz.f52 (sh.args v) (sh.slots v) dec)
noncomputable def F:Y:=lm f
def d (p0:g35.Y) (p1:g41.Y):Y:=fun (a,b,e,j,l,m,o,s,t,u,w,x,y,z,B,C,D,G,H,I,J,K,P,N,O,T,S,Q,M,V) =>
bnd (p0 (a,b,e,j,l,m,o,s,t,u,w,x,y,z,B,C,D)) fun r=>br (!decide (r = 0)) (some r) (bnd (p1 (G,H,I,J,K,P,N,O,T,S,Q,M,V)) fun r=>some r)
theorem d_cn (k0:Pr E g35.A g35.R) (k1:Pr E g41.A g41.R):∀ v:A,Cn E (d k0.p k1.p v) fun i=>d (k0.q i) (k1.q i) v:=fun (a,b,e,j,l,m,o,s,t,u,w,x,y,z,B,C,D,G,H,I,J,K,P,N,O,T,S,Q,M,V)=>(.bnd (k0.h _) fun _=>(.br .some (.bnd (k1.h _) fun _=>.some)))
theorem f_b (k:Nat):∀ v:A,f k v = d (g35.f k) (g41.f k) v:=fun (a,b,e,j,l,m,o,s,t,u,w,x,y,z,B,C,D,G,H,I,J,K,P,N,O,T,S,Q,M,V)=>(held_eq _).trans (by kernel_rfl)
theorem F_of (v:A) {r:R} (h:d g35.F g41.F v = some r):F v = some r:=join_of (fun L=>f_b (L 0) v) (d_cn (lp g35.f 0) (lp g41.f 0) v) h
noncomputable def spec (k:Nat):List AV→List Slot→Option Ans:=specS sh os (f k)
theorem spec_ok (k:Nat):SpecOk Tryz.prog 52 (spec k):=specS_ok cs_ok Tryz.func52 rfl rfl (fun _ _=>held_eq _) k
end g47
noncomputable def tg47:=tg46.cons 52 g47.spec g47.spec_ok
namespace g48 -- window_when
abbrev R:Type:=Int × Int × Bool
abbrev A:Type:=Int × Int × Int × Int × Int × Int × Int × Int × Int × Int × Int × Int × Int × Int × Int × Int × List Int × Int × Int
abbrev Y:=A→Option R
def lv:List (Nat × List Nat):=[(2000000,[6])]
noncomputable def cs:Nat→Ctx:=ctxOf tis modes tg47.1 lv
theorem cs_ok (n:Nat):CtxOk Tryz.prog (cs n):=ctxOf_ok rfl tis_ok tg47.2 n
def sh:AS:=⟨[.agg [.int .i64,.int .i64,.int .i64,.int .i64,.int .i64,.int .i64,.int .i64,.int .i64,.int .i64,.int .i64,.int .i64,.int .i64,.int .i64,.int .i64,.int .i64,.int .i64,.frz (.int .i64)],.c (.int .i64),.c (.int .i64)],[]⟩
def os:OS:=⟨.agg [.int .i64,.int .i64,.bool],[]⟩
def enc (r:R):Out:=os.enc r
def dec:Out→Option R:=os.dec
noncomputable def b0:Code:=subF [] Tryz.f105
noncomputable def K0 (k:Nat):Kt R:=kTop (cs k) Tryz.f105 dec
noncomputable def f (k:Nat):Y:=fun v=>held (runFn cs k Tryz.f105 (sh.args v) (sh.slots v) dec)
noncomputable def F:Y:=lm f
def d:Y:=fun (a,b,e,j,l,m,o,s,t,u,w,x,y,z,B,C,D,G,H) =>
some (wrap .i64 (o + wrap .i64 (G * s)),wrap .i64 (o + wrap .i64 (H * s)),false)
theorem d_cn:∀ v:A,Cn E (d v) fun i=>d v:=fun (a,b,e,j,l,m,o,s,t,u,w,x,y,z,B,C,D,G,H)=>.some
theorem f_b (k:Nat):∀ v:A,f k v = d v:=fun (a,b,e,j,l,m,o,s,t,u,w,x,y,z,B,C,D,G,H)=>(held_eq _).trans (by kernel_rfl)
theorem F_of (v:A) {r:R} (h:d v = some r):F v = some r:=join_of (fun L=>f_b (L 0) v) (d_cn v) h
noncomputable def spec (k:Nat):List AV→List Slot→Option Ans:=specS sh os (f k)
theorem spec_ok (k:Nat):SpecOk Tryz.prog 105 (spec k):=specS_ok cs_ok Tryz.func105 rfl rfl (fun _ _=>held_eq _) k
end g48
noncomputable def tg48:=tg47.cons 105 g48.spec g48.spec_ok
namespace g49 -- bound_Check_Tick
abbrev R:Type:=Int
abbrev A:Type:=Int × Int × Bool
abbrev Y:=A→Option R
def lv:List (Nat × List Nat):=[(2000000,[2])]
noncomputable def cs:Nat→Ctx:=ctxOf tis modes tg48.1 lv
theorem cs_ok (n:Nat):CtxOk Tryz.prog (cs n):=ctxOf_ok rfl tis_ok tg48.2 n
def sh:AS:=⟨[(.agg [.int .i64,.int .i64,.bool])],[]⟩
def os:OS:=⟨.c (.int .i64),[]⟩
def enc (r:R):Out:=os.enc r
def dec:Out→Option R:=os.dec
noncomputable def b0:Code:=subF [] Tryz.f222
noncomputable def K0 (k:Nat):Kt R:=kTop (cs k) Tryz.f222 dec
noncomputable def f (k:Nat):Y:=fun v=>held (runFn cs k Tryz.f222 (sh.args v) (sh.slots v) dec)
noncomputable def F:Y:=lm f
def d:Y:=fun (a,b,e) =>
br (e && (!decide (a = 0) || !decide (b = 0))) (some 3) (br (decide (min a b < -1152921504606846976) || decide (1152921504606846976 < max a b)) (some 4) (br (decide (b < a)) (some 11) (some 0)))
theorem d_cn:∀ v:A,Cn E (d v) fun i=>d v:=fun (a,b,e)=>(.br .some (.br .some (.br .some .some)))
theorem f_b (k:Nat):∀ v:A,f k v = d v:=fun (a,b,e)=>(held_eq _).trans (by kernel_rfl)
theorem F_of (v:A) {r:R} (h:d v = some r):F v = some r:=join_of (fun L=>f_b (L 0) v) (d_cn v) h
noncomputable def spec (k:Nat):List AV→List Slot→Option Ans:=specS sh os (f k)
theorem spec_ok (k:Nat):SpecOk Tryz.prog 222 (spec k):=specS_ok cs_ok Tryz.func222 rfl rfl (fun _ _=>held_eq _) k
end g49
noncomputable def tg49:=tg48.cons 222 g49.spec g49.spec_ok
namespace g50 -- bound_None_Tick
abbrev R:Type:=Int × Int × Bool
abbrev A:Type:=Unit
abbrev Y:=A→Option R
def lv:List (Nat × List Nat):=[(2000000,[0])]
noncomputable def cs:Nat→Ctx:=ctxOf tis modes tg49.1 lv
theorem cs_ok (n:Nat):CtxOk Tryz.prog (cs n):=ctxOf_ok rfl tis_ok tg49.2 n
def sh:AS:=⟨[],[]⟩
def os:OS:=⟨.agg [.int .i64,.int .i64,.bool],[]⟩
def enc (r:R):Out:=os.enc r
def dec:Out→Option R:=os.dec
noncomputable def b0:Code:=subF [] Tryz.f211
noncomputable def K0 (k:Nat):Kt R:=kTop (cs k) Tryz.f211 dec
noncomputable def f (k:Nat):Y:=fun v=>held (runFn cs k Tryz.f211 (sh.args v) (sh.slots v) dec)
noncomputable def F:Y:=lm f
def d:Y:=fun _ =>
some (0,0,true)
theorem d_cn:∀ v:A,Cn E (d v) fun i=>d v:=fun _=>.some
theorem f_b (k:Nat):∀ v:A,f k v = d v:=fun _=>(held_eq _).trans (by kernel_rfl)
theorem F_of (v:A) {r:R} (h:d v = some r):F v = some r:=join_of (fun L=>f_b (L 0) v) (d_cn v) h
noncomputable def spec (k:Nat):List AV→List Slot→Option Ans:=specS sh os (f k)
theorem spec_ok (k:Nat):SpecOk Tryz.prog 211 (spec k):=specS_ok cs_ok Tryz.func211 rfl rfl (fun _ _=>held_eq _) k
end g50
noncomputable def tg50:=tg49.cons 211 g50.spec g50.spec_ok
namespace g51 -- bound_Norm_Tick
abbrev R:Type:=Int × Int × Bool
abbrev A:Type:=Int × Int × Bool
abbrev Y:=A→Option R
def lv:List (Nat × List Nat):=[(2000000,[2])]
noncomputable def cs:Nat→Ctx:=ctxOf tis modes tg50.1 lv
theorem cs_ok (n:Nat):CtxOk Tryz.prog (cs n):=ctxOf_ok rfl tis_ok tg50.2 n
def sh:AS:=⟨[(.agg [.int .i64,.int .i64,.bool])],[]⟩
def os:OS:=⟨.agg [.int .i64,.int .i64,.bool],[]⟩
def enc (r:R):Out:=os.enc r
def dec:Out→Option R:=os.dec
noncomputable def b0:Code:=subF [] Tryz.f212
noncomputable def K0 (k:Nat):Kt R:=kTop (cs k) Tryz.f212 dec
noncomputable def f (k:Nat):Y:=fun v=>held (runFn cs k Tryz.f212 (sh.args v) (sh.slots v) dec)
noncomputable def F:Y:=lm f
def d (p0:g49.Y) (p1:g50.Y):Y:=fun (a,b,e) =>
bnd (p0 (a,b,e)) fun r=>br (!decide (r = 0)) (bnd (p1 ()) fun r=>some (r.1,r.2.1,r.2.2)) (some (a,b,e))
theorem d_cn (k0:Pr E g49.A g49.R) (k1:Pr E g50.A g50.R):∀ v:A,Cn E (d k0.p k1.p v) fun i=>d (k0.q i) (k1.q i) v:=fun (a,b,e)=>(.bnd (k0.h _) fun _=>(.br (.bnd (k1.h _) fun _=>.some) .some))
theorem f_b (k:Nat):∀ v:A,f k v = d (g49.f k) (g50.f k) v:=fun (a,b,e)=>(held_eq _).trans (by kernel_rfl)
theorem F_of (v:A) {r:R} (h:d g49.F g50.F v = some r):F v = some r:=join_of (fun L=>f_b (L 0) v) (d_cn (lp g49.f 0) (lp g50.f 0) v) h
noncomputable def spec (k:Nat):List AV→List Slot→Option Ans:=specS sh os (f k)
theorem spec_ok (k:Nat):SpecOk Tryz.prog 212 (spec k):=specS_ok cs_ok Tryz.func212 rfl rfl (fun _ _=>held_eq _) k
end g51
noncomputable def tg51:=tg50.cons 212 g51.spec g51.spec_ok
namespace g52 -- bound_Of_Tick
abbrev R:Type:=Int × Int × Bool
abbrev A:Type:=Int × Int
abbrev Y:=A→Option R
def lv:List (Nat × List Nat):=[(2000000,[4])]
noncomputable def cs:Nat→Ctx:=ctxOf tis modes tg51.1 lv
theorem cs_ok (n:Nat):CtxOk Tryz.prog (cs n):=ctxOf_ok rfl tis_ok tg51.2 n
def sh:AS:=⟨[.c (.int .i64),.c (.int .i64)],[]⟩
def os:OS:=⟨.agg [.int .i64,.int .i64,.bool],[]⟩
def enc (r:R):Out:=os.enc r
def dec:Out→Option R:=os.dec
noncomputable def b0:Code:=subF [] Tryz.f186
noncomputable def K0 (k:Nat):Kt R:=kTop (cs k) Tryz.f186 dec
noncomputable def f (k:Nat):Y:=fun v=>held (runFn cs k Tryz.f186 (sh.args v) (sh.slots v) dec)
noncomputable def F:Y:=lm f
def d (p0:g51.Y):Y:=fun (a,b) =>
bnd (p0 (a,b,false)) fun r=>some (r.1,r.2.1,r.2.2)
theorem d_cn (k0:Pr E g51.A g51.R):∀ v:A,Cn E (d k0.p v) fun i=>d (k0.q i) v:=fun (a,b)=>(.bnd (k0.h _) fun _=>.some)
theorem f_b (k:Nat):∀ v:A,f k v = d (g51.f k) v:=fun (a,b)=>(held_eq _).trans (by kernel_rfl)
theorem F_of (v:A) {r:R} (h:d g51.F v = some r):F v = some r:=join_of (fun L=>f_b (L 0) v) (d_cn (lp g51.f 0) v) h
noncomputable def spec (k:Nat):List AV→List Slot→Option Ans:=specS sh os (f k)
theorem spec_ok (k:Nat):SpecOk Tryz.prog 186 (spec k):=specS_ok cs_ok Tryz.func186 rfl rfl (fun _ _=>held_eq _) k
end g52
noncomputable def tg52:=tg51.cons 186 g52.spec g52.spec_ok
namespace g53 -- bound_Exact_Tick
abbrev R:Type:=Int × Int × Bool
abbrev A:Type:=Int
abbrev Y:=A→Option R
def lv:List (Nat × List Nat):=[(2000000,[2])]
noncomputable def cs:Nat→Ctx:=ctxOf tis modes tg52.1 lv
theorem cs_ok (n:Nat):CtxOk Tryz.prog (cs n):=ctxOf_ok rfl tis_ok tg52.2 n
def sh:AS:=⟨[(.c (.int .i64))],[]⟩
def os:OS:=⟨.agg [.int .i64,.int .i64,.bool],[]⟩
def enc (r:R):Out:=os.enc r
def dec:Out→Option R:=os.dec
noncomputable def b0:Code:=subF [] Tryz.f151
noncomputable def K0 (k:Nat):Kt R:=kTop (cs k) Tryz.f151 dec
noncomputable def f (k:Nat):Y:=fun v=>held (runFn cs k Tryz.f151 (sh.args v) (sh.slots v) dec)
noncomputable def F:Y:=lm f
def d (p0:g52.Y):Y:=fun a =>
bnd (p0 (a,a)) fun r=>some (r.1,r.2.1,r.2.2)
theorem d_cn (k0:Pr E g52.A g52.R):∀ v:A,Cn E (d k0.p v) fun i=>d (k0.q i) v:=fun a=>(.bnd (k0.h _) fun _=>.some)
theorem f_b (k:Nat):∀ v:A,f k v = d (g52.f k) v:=fun a=>(held_eq _).trans (by kernel_rfl)
theorem F_of (v:A) {r:R} (h:d g52.F v = some r):F v = some r:=join_of (fun L=>f_b (L 0) v) (d_cn (lp g52.f 0) v) h
noncomputable def spec (k:Nat):List AV→List Slot→Option Ans:=specS sh os (f k)
theorem spec_ok (k:Nat):SpecOk Tryz.prog 151 (spec k):=specS_ok cs_ok Tryz.func151 rfl rfl (fun _ _=>held_eq _) k
end g53
noncomputable def tg53:=tg52.cons 151 g53.spec g53.spec_ok
namespace g54 -- bound_Neg_Tick
abbrev R:Type:=Int × Int × Bool
abbrev A:Type:=Int × Int × Bool
abbrev Y:=A→Option R
def lv:List (Nat × List Nat):=[(2000000,[2])]
noncomputable def cs:Nat→Ctx:=ctxOf tis modes tg53.1 lv
theorem cs_ok (n:Nat):CtxOk Tryz.prog (cs n):=ctxOf_ok rfl tis_ok tg53.2 n
def sh:AS:=⟨[(.agg [.int .i64,.int .i64,.bool])],[]⟩
def os:OS:=⟨.agg [.int .i64,.int .i64,.bool],[]⟩
def enc (r:R):Out:=os.enc r
def dec:Out→Option R:=os.dec
noncomputable def b0:Code:=subF [] Tryz.f185
noncomputable def K0 (k:Nat):Kt R:=kTop (cs k) Tryz.f185 dec
noncomputable def f (k:Nat):Y:=fun v=>held (runFn cs k Tryz.f185 (sh.args v) (sh.slots v) dec)
noncomputable def F:Y:=lm f
def d (p0:g51.Y):Y:=fun (a,b,e) =>
bnd (p0 (a,b,e)) fun r=>some (wrap .i64 (0 - r.2.1),wrap .i64 (0 - r.1),r.2.2)
theorem d_cn (k0:Pr E g51.A g51.R):∀ v:A,Cn E (d k0.p v) fun i=>d (k0.q i) v:=fun (a,b,e)=>(.bnd (k0.h _) fun _=>.some)
theorem f_b (k:Nat):∀ v:A,f k v = d (g51.f k) v:=fun (a,b,e)=>(held_eq _).trans (by kernel_rfl)
theorem F_of (v:A) {r:R} (h:d g51.F v = some r):F v = some r:=join_of (fun L=>f_b (L 0) v) (d_cn (lp g51.f 0) v) h
noncomputable def spec (k:Nat):List AV→List Slot→Option Ans:=specS sh os (f k)
theorem spec_ok (k:Nat):SpecOk Tryz.prog 185 (spec k):=specS_ok cs_ok Tryz.func185 rfl rfl (fun _ _=>held_eq _) k
end g54
noncomputable def tg54:=tg53.cons 185 g54.spec g54.spec_ok
namespace g55 -- bound_vague_Tick
abbrev R:Type:=Bool
abbrev A:Type:=Int × Int × Bool × Int × Int × Bool
abbrev Y:=A→Option R
def lv:List (Nat × List Nat):=[(2000000,[4])]
noncomputable def cs:Nat→Ctx:=ctxOf tis modes tg54.1 lv
theorem cs_ok (n:Nat):CtxOk Tryz.prog (cs n):=ctxOf_ok rfl tis_ok tg54.2 n
def sh:AS:=⟨[.agg [.int .i64,.int .i64,.bool],.agg [.int .i64,.int .i64,.bool]],[]⟩
def os:OS:=⟨.c .bool,[]⟩
def enc (r:R):Out:=os.enc r
def dec:Out→Option R:=os.dec
noncomputable def b0:Code:=subF [] Tryz.f210
noncomputable def K0 (k:Nat):Kt R:=kTop (cs k) Tryz.f210 dec
noncomputable def f (k:Nat):Y:=fun v=>held (runFn cs k Tryz.f210 (sh.args v) (sh.slots v) dec)
noncomputable def F:Y:=lm f
def d (p0:g51.Y):Y:=fun (a,b,e,j,l,m) =>
bnd (p0 (a,b,e)) fun r=>br (r.2.2 == false) (bnd (p0 (j,l,m)) fun r=>some r.2.2) (some true)
theorem d_cn (k0:Pr E g51.A g51.R):∀ v:A,Cn E (d k0.p v) fun i=>d (k0.q i) v:=fun (a,b,e,j,l,m)=>(.bnd (k0.h _) fun _=>(.br (.bnd (k0.h _) fun _=>.some) .some))
theorem f_b (k:Nat):∀ v:A,f k v = d (g51.f k) v:=fun (a,b,e,j,l,m)=>(held_eq _).trans (by kernel_rfl)
theorem F_of (v:A) {r:R} (h:d g51.F v = some r):F v = some r:=join_of (fun L=>f_b (L 0) v) (d_cn (lp g51.f 0) v) h
noncomputable def spec (k:Nat):List AV→List Slot→Option Ans:=specS sh os (f k)
theorem spec_ok (k:Nat):SpecOk Tryz.prog 210 (spec k):=specS_ok cs_ok Tryz.func210 rfl rfl (fun _ _=>held_eq _) k
end g55
noncomputable def tg55:=tg54.cons 210 g55.spec g55.spec_ok
namespace g56 -- bound_Add_Tick
abbrev R:Type:=Int × Int × Bool
abbrev A:Type:=Int × Int × Bool × Int × Int × Bool
abbrev Y:=A→Option R
def lv:List (Nat × List Nat):=[(2000000,[4])]
noncomputable def cs:Nat→Ctx:=ctxOf tis modes tg55.1 lv
theorem cs_ok (n:Nat):CtxOk Tryz.prog (cs n):=ctxOf_ok rfl tis_ok tg55.2 n
def sh:AS:=⟨[.agg [.int .i64,.int .i64,.bool],.agg [.int .i64,.int .i64,.bool]],[]⟩
def os:OS:=⟨.agg [.int .i64,.int .i64,.bool],[]⟩
def enc (r:R):Out:=os.enc r
def dec:Out→Option R:=os.dec
noncomputable def b0:Code:=subF [] Tryz.f184
noncomputable def K0 (k:Nat):Kt R:=kTop (cs k) Tryz.f184 dec
noncomputable def f (k:Nat):Y:=fun v=>held (runFn cs k Tryz.f184 (sh.args v) (sh.slots v) dec)
noncomputable def F:Y:=lm f
def d (p0:g55.Y) (p1:g50.Y) (p2:g52.Y):Y:=fun (a,b,e,j,l,m) =>
bnd (p0 (a,b,e,j,l,m)) fun r=>br r (bnd (p1 ()) fun r=>some (r.1,r.2.1,r.2.2)) (bnd (p2 (wrap .i64 (a + j),wrap .i64 (b + l))) fun r=>some (r.1,r.2.1,r.2.2))
theorem d_cn (k0:Pr E g55.A g55.R) (k1:Pr E g50.A g50.R) (k2:Pr E g52.A g52.R):∀ v:A,Cn E (d k0.p k1.p k2.p v) fun i=>d (k0.q i) (k1.q i) (k2.q i) v:=fun (a,b,e,j,l,m)=>(.bnd (k0.h _) fun _=>(.br (.bnd (k1.h _) fun _=>.some) (.bnd (k2.h _) fun _=>.some)))
theorem f_b (k:Nat):∀ v:A,f k v = d (g55.f k) (g50.f k) (g52.f k) v:=fun (a,b,e,j,l,m)=>(held_eq _).trans (by kernel_rfl)
theorem F_of (v:A) {r:R} (h:d g55.F g50.F g52.F v = some r):F v = some r:=join_of (fun L=>f_b (L 0) v) (d_cn (lp g55.f 0) (lp g50.f 0) (lp g52.f 0) v) h
noncomputable def spec (k:Nat):List AV→List Slot→Option Ans:=specS sh os (f k)
theorem spec_ok (k:Nat):SpecOk Tryz.prog 184 (spec k):=specS_ok cs_ok Tryz.func184 rfl rfl (fun _ _=>held_eq _) k
end g56
noncomputable def tg56:=tg55.cons 184 g56.spec g56.spec_ok
namespace g57 -- bound_Sub_Tick
abbrev R:Type:=Int × Int × Bool
abbrev A:Type:=Int × Int × Bool × Int × Int × Bool
abbrev Y:=A→Option R
def lv:List (Nat × List Nat):=[(2000000,[4])]
noncomputable def cs:Nat→Ctx:=ctxOf tis modes tg56.1 lv
theorem cs_ok (n:Nat):CtxOk Tryz.prog (cs n):=ctxOf_ok rfl tis_ok tg56.2 n
def sh:AS:=⟨[.agg [.int .i64,.int .i64,.bool],.agg [.int .i64,.int .i64,.bool]],[]⟩
def os:OS:=⟨.agg [.int .i64,.int .i64,.bool],[]⟩
def enc (r:R):Out:=os.enc r
def dec:Out→Option R:=os.dec
noncomputable def b0:Code:=subF [] Tryz.f150
noncomputable def K0 (k:Nat):Kt R:=kTop (cs k) Tryz.f150 dec
noncomputable def f (k:Nat):Y:=fun v=>held (runFn cs k Tryz.f150 (sh.args v) (sh.slots v) dec)
noncomputable def F:Y:=lm f
def d (p0:g54.Y) (p1:g56.Y):Y:=fun (a,b,e,j,l,m) =>
bnd (p0 (j,l,m)) fun r=>bnd (p1 (a,b,e,r.1,r.2.1,r.2.2)) fun r=>some (r.1,r.2.1,r.2.2)
theorem d_cn (k0:Pr E g54.A g54.R) (k1:Pr E g56.A g56.R):∀ v:A,Cn E (d k0.p k1.p v) fun i=>d (k0.q i) (k1.q i) v:=fun (a,b,e,j,l,m)=>(.bnd (k0.h _) fun _=>(.bnd (k1.h _) fun _=>.some))
theorem f_b (k:Nat):∀ v:A,f k v = d (g54.f k) (g56.f k) v:=fun (a,b,e,j,l,m)=>(held_eq _).trans (by kernel_rfl)
theorem F_of (v:A) {r:R} (h:d g54.F g56.F v = some r):F v = some r:=join_of (fun L=>f_b (L 0) v) (d_cn (lp g54.f 0) (lp g56.f 0) v) h
noncomputable def spec (k:Nat):List AV→List Slot→Option Ans:=specS sh os (f k)
theorem spec_ok (k:Nat):SpecOk Tryz.prog 150 (spec k):=specS_ok cs_ok Tryz.func150 rfl rfl (fun _ _=>held_eq _) k
end g57
noncomputable def tg57:=tg56.cons 150 g57.spec g57.spec_ok
namespace g58 -- bound_None_Arc
abbrev R:Type:=Int × Int × Bool
abbrev A:Type:=Unit
abbrev Y:=A→Option R
def lv:List (Nat × List Nat):=[(2000000,[0])]
noncomputable def cs:Nat→Ctx:=ctxOf tis modes tg57.1 lv
theorem cs_ok (n:Nat):CtxOk Tryz.prog (cs n):=ctxOf_ok rfl tis_ok tg57.2 n
def sh:AS:=⟨[],[]⟩
def os:OS:=⟨.agg [.int .i64,.int .i64,.bool],[]⟩
def enc (r:R):Out:=os.enc r
def dec:Out→Option R:=os.dec
noncomputable def b0:Code:=subF [] Tryz.f152
noncomputable def K0 (k:Nat):Kt R:=kTop (cs k) Tryz.f152 dec
noncomputable def f (k:Nat):Y:=fun v=>held (runFn cs k Tryz.f152 (sh.args v) (sh.slots v) dec)
noncomputable def F:Y:=lm f
def d:Y:=fun _ =>
some (0,0,true)
theorem d_cn:∀ v:A,Cn E (d v) fun i=>d v:=fun _=>.some
theorem f_b (k:Nat):∀ v:A,f k v = d v:=fun _=>(held_eq _).trans (by kernel_rfl)
theorem F_of (v:A) {r:R} (h:d v = some r):F v = some r:=join_of (fun L=>f_b (L 0) v) (d_cn v) h
noncomputable def spec (k:Nat):List AV→List Slot→Option Ans:=specS sh os (f k)
theorem spec_ok (k:Nat):SpecOk Tryz.prog 152 (spec k):=specS_ok cs_ok Tryz.func152 rfl rfl (fun _ _=>held_eq _) k
end g58
noncomputable def tg58:=tg57.cons 152 g58.spec g58.spec_ok
namespace g59 -- bits_Len64
abbrev R:Type:=Int
abbrev A:Type:=Int
abbrev Y:=A→Option R
def lv:List (Nat × List Nat):=[(2000000,[2]),(1000004,[0,2]),(1000007,[0,2]),(1000010,[0,2])]
noncomputable def cs:Nat→Ctx:=ctxOf tis modes tg58.1 lv
theorem cs_ok (n:Nat):CtxOk Tryz.prog (cs n):=ctxOf_ok rfl tis_ok tg58.2 n
def sh:AS:=⟨[(.c (.int .u64))],[]⟩
def os:OS:=⟨.c (.int .i64),[]⟩
def enc (r:R):Out:=os.enc r
def dec:Out→Option R:=os.dec
noncomputable def b0:Code:=subF [] Tryz.f224
noncomputable def K0 (k:Nat):Kt R:=kTop (cs k) Tryz.f224 dec
noncomputable def c1000004:Code:=sub [1,1] b0
noncomputable def J1000004 ( k:Nat):Kt R:=kAt (cs k) (loopN cs k) [1,1] b0 (K0 k)
noncomputable def c1000007:Code:=sub [1,1,1] b0
noncomputable def J1000007 ( k:Nat):Kt R:=kAt (cs k) (loopN cs k) [1,1,1] b0 (K0 k)
noncomputable def c1000010:Code:=sub [1,1,1,1] b0
noncomputable def J1000010 ( k:Nat):Kt R:=kAt (cs k) (loopN cs k) [1,1,1,1] b0 (K0 k)
abbrev T0:Type:=Int × Int
abbrev Y0:=T0→Option R
def s0:T0→St:=fun (a,b)=>⟨25,0,[(0,.c (.int .u64 a)),(2,.c (.int .i64 b))],[],[(256000000,.gone)]⟩
noncomputable def l0 ( k:Nat) (v:T0):Option R:=held (run (cs k) (loopN cs k) c1000004 (J1000004 k) (s0 v))
noncomputable def D0 (v:T0):Option R:=lim fun L=>l0 (L 0) v
theorem D0_cn (v:T0):Cn late (D0 v) fun L=>l0 (L 0) v:=of_lim
abbrev T1:Type:=Int × Int
abbrev Y1:=T1→Option R
def s1:T1→St:=fun (a,b)=>⟨25,0,[(0,.c (.int .u64 a)),(2,.c (.int .i64 b))],[],[(256000000,.gone)]⟩
noncomputable def l1 ( k:Nat) (v:T1):Option R:=held (run (cs k) (loopN cs k) c1000007 (J1000007 k) (s1 v))
noncomputable def D1 (v:T1):Option R:=lim fun L=>l1 (L 0) v
theorem D1_cn (v:T1):Cn late (D1 v) fun L=>l1 (L 0) v:=of_lim
abbrev T2:Type:=Int × Int
abbrev Y2:=T2→Option R
def s2:T2→St:=fun (a,b)=>⟨25,0,[(0,.c (.int .u64 a)),(2,.c (.int .i64 b))],[],[(256000000,.gone)]⟩
noncomputable def l2 ( k:Nat) (v:T2):Option R:=held (run (cs k) (loopN cs k) c1000010 (J1000010 k) (s2 v))
noncomputable def D2 (v:T2):Option R:=lim fun L=>l2 (L 0) v
theorem D2_cn (v:T2):Cn late (D2 v) fun L=>l2 (L 0) v:=of_lim
def d0 (p0:Y1):Y0:=fun (a,b) =>
br (decide (65536 ≤ a)) (br (decide ((0:Int) ≤ 16)) (p0 (shr .u64 a 16,wrap .i64 (b + 16))) none) (p0 (a,b))
theorem d0_cn (k0:Pr E T1 R):∀ v:T0,Cn E (d0 k0.p v) fun i=>d0 (k0.q i) v:=fun (a,b)=>(.br (.br (k0.h _) .none) (k0.h _))
theorem l0_b ( k:Nat):∀ v:T0,run (cs k) (loopN cs k) c1000004 (J1000004 k) (s0 v) = d0 (l1 k) v:=fun (a,b)=>by kernel_rfl
theorem D0_of (v:T0) {r:R} (h:d0 D1 v = some r):D0 v = some r:=join_of (fun L=>(held_eq _).trans (l0_b (L 0) v)) (d0_cn (.mk fun v=>(D1_cn v).re [0]) v) h
def d1 (p0:Y2):Y1:=fun (a,b) =>
br (decide (256 ≤ a)) (br (decide ((0:Int) ≤ 8)) (p0 (shr .u64 a 8,wrap .i64 (b + 8))) none) (p0 (a,b))
theorem d1_cn (k0:Pr E T2 R):∀ v:T1,Cn E (d1 k0.p v) fun i=>d1 (k0.q i) v:=fun (a,b)=>(.br (.br (k0.h _) .none) (k0.h _))
theorem l1_b ( k:Nat):∀ v:T1,run (cs k) (loopN cs k) c1000007 (J1000007 k) (s1 v) = d1 (l2 k) v:=fun (a,b)=>by kernel_rfl
theorem D1_of (v:T1) {r:R} (h:d1 D2 v = some r):D1 v = some r:=join_of (fun L=>(held_eq _).trans (l1_b (L 0) v)) (d1_cn (.mk fun v=>(D2_cn v).re [0]) v) h
def d2:Y2:=fun (a,b) =>
br (decide (0 ≤ wrap .u8 a ∧ wrap .u8 a < (↑bs0.size:Int))) (some (wrap .i64 (b + wrap .i64 (↑(bs0.data.getD (wrap .u8 a).toNat 0).toNat:Int)))) none
theorem d2_cn:∀ v:T2,Cn E (d2 v) fun i=>d2 v:=fun (a,b)=>(.br .some .none)
theorem l2_b ( k:Nat):∀ v:T2,run (cs k) (loopN cs k) c1000010 (J1000010 k) (s2 v) = d2 v:=fun (a,b)=>by kernel_rfl
theorem D2_of (v:T2) {r:R} (h:d2 v = some r):D2 v = some r:=join_of (fun L=>(held_eq _).trans (l2_b (L 0) v)) (d2_cn v) h
noncomputable def f (k:Nat):Y:=fun v=>held (runFn cs k Tryz.f224 (sh.args v) (sh.slots v) dec)
noncomputable def F:Y:=lm f
def d (p0:Y0):Y:=fun a =>
br (decide (4294967296 ≤ a)) (br (decide ((0:Int) ≤ 32)) (p0 (shr .u64 a 32,32)) none) (p0 (a,0))
theorem d_cn (k0:Pr E T0 R):∀ v:A,Cn E (d k0.p v) fun i=>d (k0.q i) v:=fun a=>(.br (.br (k0.h _) .none) (k0.h _))
theorem f_b (k:Nat):∀ v:A,f k v = d (l0 k) v:=fun a=>(held_eq _).trans (by kernel_rfl)
theorem F_of (v:A) {r:R} (h:d D0 v = some r):F v = some r:=join_of (fun L=>f_b (L 0) v) (d_cn (.mk fun v=>(D0_cn v).re [0]) v) h
noncomputable def spec (k:Nat):List AV→List Slot→Option Ans:=specS sh os (f k)
theorem spec_ok (k:Nat):SpecOk Tryz.prog 224 (spec k):=specS_ok cs_ok Tryz.func224 rfl rfl (fun _ _=>held_eq _) k
end g59
noncomputable def tg59:=tg58.cons 224 g59.spec g59.spec_ok
namespace g60 -- bits_LeadingZeros64
abbrev R:Type:=Int
abbrev A:Type:=Int
abbrev Y:=A→Option R
def lv:List (Nat × List Nat):=[(2000000,[2])]
noncomputable def cs:Nat→Ctx:=ctxOf tis modes tg59.1 lv
theorem cs_ok (n:Nat):CtxOk Tryz.prog (cs n):=ctxOf_ok rfl tis_ok tg59.2 n
def sh:AS:=⟨[(.c (.int .u64))],[]⟩
def os:OS:=⟨.c (.int .i64),[]⟩
def enc (r:R):Out:=os.enc r
def dec:Out→Option R:=os.dec
noncomputable def b0:Code:=subF [] Tryz.f223
noncomputable def K0 (k:Nat):Kt R:=kTop (cs k) Tryz.f223 dec
noncomputable def f (k:Nat):Y:=fun v=>held (runFn cs k Tryz.f223 (sh.args v) (sh.slots v) dec)
noncomputable def F:Y:=lm f
def d (p0:g59.Y):Y:=fun a =>
bnd (p0 a) fun r=>some (wrap .i64 (64 - r))
theorem d_cn (k0:Pr E g59.A g59.R):∀ v:A,Cn E (d k0.p v) fun i=>d (k0.q i) v:=fun a=>(.bnd (k0.h _) fun _=>.some)
theorem f_b (k:Nat):∀ v:A,f k v = d (g59.f k) v:=fun a=>(held_eq _).trans (by kernel_rfl)
theorem F_of (v:A) {r:R} (h:d g59.F v = some r):F v = some r:=join_of (fun L=>f_b (L 0) v) (d_cn (lp g59.f 0) v) h
noncomputable def spec (k:Nat):List AV→List Slot→Option Ans:=specS sh os (f k)
theorem spec_ok (k:Nat):SpecOk Tryz.prog 223 (spec k):=specS_ok cs_ok Tryz.func223 rfl rfl (fun _ _=>held_eq _) k
end g60
noncomputable def tg60:=tg59.cons 223 g60.spec g60.spec_ok
end Go.Proofs.RPn
